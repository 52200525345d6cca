/- dm of this claim: P2. -/
import Derived.Test.YthbdkceckjihgaaGreatDoorBcT
import Derived.Test.YthbdkceckjihgaaGreatDoorBcP1
set_option linter.all false
namespace Go.Proofs.YthbdkceckjihgaaGreatDoor
open Go
abbrev z10(i:OI)(s:am):=[(10,Y (i.h 0).1 (i.h 0).2 s.out.Tables.length),(11,Y (i.h 1).1 (i.h 1).2 s.out.Joins.length),(16,Y (i.h 2).1 (i.h 2).2 s.out.Keys.length),(17,Y (i.h 3).1 (i.h 3).2 s.out.Aggs.length),(18,Y (i.h 4).1 (i.h 4).2 s.out.Items.length),(22,Y (i.h 5).1 (i.h 5).2 s.kinds.length),(23,Y (i.h 6).1 (i.h 6).2 s.groups.length),(19,aH (i.h 7).2),(20,aH (i.h 8).2),(21,aH (i.h 9).2)]
set_option maxRecDepth 100000

def V1 t{R}(h:tG t=some R):cN bd 172 [Z bD t] (bf R):=by
 refine dp Tryz.func172 I<|aV<|cL I<|bF<|bP<|aR<|cM iw I<|eg h aa8 (VM _) (da I) fun r h=>aY I<|cU I I<|cU I I<|gx I<|bh I<|aI I<|d (fD (M I)) ?_;refine bX h I (fun h=>?_) (fun h=>?_)
 ·exact aV<|dG<|af<|so h▸au I I
 ·exact gp<|aV<|dG<|so h▸au I I

def V2 t{R}(h:wV t=some R):cN bd 171 [Z bD t] (iD R):=by
 exact dp Tryz.func171 I<|aV<|cL I<|bC<|bP<|aV<|cM iw I<|eg h abp (V1 _) (da I) fun r h=>ib I<|bj I<|so h▸au I I

def Ku l{R}(h:vt l=some R):cN bd 137 [gb (bD) l] (iD R):=by
 exact dp Tryz.func137 I<|aV<|bC<|bP<|aI I<|eg h abr (V3 _ _) ⟨(M I),(Yl abq fun x y h=>V2 _ h),Q⟩ fun r h=>d (fD (M I))<|bj I<|so h▸au I I

def Yv s{R}(h:wW s=some R):cN bd 92 [Z aW s] (iD R):=by
 refine dp Tryz.func92 I<|aV<|cL I<|bC<|bP<|aR<|aU yp mH xV I<|aU ma eK vE I<|bY pe I<|dn I<|d (wA FR (M I) (M I))<|aY I<|ap I (bQ ma eK I I)<|ap I (bN vE I I)<|ap I (gy pe I)<|ap I (fun V=>eX (bE I V) hI)<|dU I<|aY I ?_;refine ap I (bQ mi eJ I I)<|ap I (bN vD I I)<|ap I (gy rD I)<|ap I (fun V=>eX (bE I V) hI)<|dU I<|aY I<|ap I (bQ ri gk I I)<|ap I (bN zp I I)<|ap I (gy wj I)<|ap I (fun V=>eX (bE I V) hI)<|dU I<|bX h I (fun h=>?_) (fun h=>?_)
 ·exact aV<|bC<|cA<|af<|so h▸au I I
 ·refine gp<|aV<|aU Ei rt tQ I<|eg h Xv (Qe _) (da I) fun r h=>bh I<|aR<|aU ma eK vE I<|bY pe I<|d (bB hI)<|bP<|ai<|aN (k:=41) I fun hN=>bp ?_;refine ay (jX (tD:=fun ls i ok=>(s.Items.drop i=ls)/\nD s ls ok=some R) (Of:=fun _ i ok=>[]) (Gf:=fun _ i ok=>[(1,bo aW s),(3,iD ok),(41,gb (d5) s.Items),(42,iG s.Items),(43,bf (i:Int))]) (fun i ok h=>?_) (fun e tl ih i ok h=>?_) s.Items 0 r ⟨I,h⟩) (a8 I)
  ·obtain⟨D,h⟩:=h
   refine dh D I<|aq<|aR<|aU mi eJ vD I<|bY rD I<|d (bB hI)<|bP<|ai<|aN (k:=61) I fun hN1=>?_;refine bp ?_;refine ay (jX (tD:=fun ls1 i1 ok1=>(s.Joins.drop i1=ls1)/\nC s ls1 ok1=some R) (Of:=fun _ i1 ok1=>[]) (Gf:=fun _ i1 ok1=>[(1,bo aW s),(3,iD ok1),(61,gb (dC) s.Joins),(62,iG s.Joins),(63,bf (i1:Int))]) (fun i1 ok1 h=>?_) (fun e1 tl1 ih1 i1 ok1 h=>?_) s.Joins 0 ok ⟨I,h⟩) (a8 I)
   ·obtain⟨hx1,h⟩:=h
    refine dh hx1 I<|aq<|aR<|aU ri gk zp I<|bY wj I<|d (bB hI)<|bP<|ai<|aN (k:=81) I fun hN2=>?_;refine bp ?_;refine ay (jX (tD:=fun ls2 i2 ok2=>(s.Group.drop i2=ls2)/\nB s ls2 ok2=some R) (Of:=fun _ i2 ok2=>[]) (Gf:=fun _ i2 ok2=>[(1,bo aW s),(3,iD ok2),(81,gb (fI) s.Group),(82,iG s.Group),(83,bf (i2:Int))]) (fun i2 ok2 h=>?_) (fun e2 tl2 ih2 i2 ok2 h=>?_) s.Group 0 ok1 ⟨I,h⟩) (a8 I)
    ·obtain⟨hx2,h⟩:=h
     refine dh hx2 I<|aq<|aR<|aU xg nL iw I<|aU uF lD iw I<|d (sQ (r:=bD) (ys:=[s.Where,s.Having]) (xs:=[.tmp 100,.tmp 102]) Tryz.underlying209 iw I ZX I I ⟨(M I),(M I),Q⟩)<|d (bB hI)<|bP ?_;refine ai<|bp ?_;refine ay (QI (tD:=fun k i3 ok3=>(2-i3=k)/\pQ s k i3 ok3=some R) (Of:=fun _ i3 ok3=>[]) (Gf:=fun _ i3 ok3=>[(3,iD ok3),(103,Z (qD bD 2) ([s.Where,s.Having])),(104,bf (i3:Int))]) (fun i3 ok3 h=>?_) (fun k1 ih3 i3 ok3 h=>?_) 2 0 ok2 ⟨I,h⟩) (a8 I)
     ·obtain⟨hx3,h⟩:=h
      exact dw<|aV<|d (eN (M I) hI)<|bP<|aA<|qM (M I) (Rx hx3)<|ep<|aE<|aE<|cK<|aq<|aI I<|bj I<|so h▸au I I
     ·obtain⟨hx3,h⟩:=h
      refine dw<|aV<|d (eN (M I) hI)<|bP<|aA<|qL (M I) (Rw hx3)<|gp<|aA<|ai<|aV<|cu h fun e4 q_e4 h=>d (xz Tryz.underlying209 iw I I (M I) (M I) q_e4)<|aX iw uO I fun b=>bM iw aj I<|aQ 11 I<|bP<|aL<|aY I<|aY I ?_;refine cu h fun t q_t h=>ax I (bQ ik dX I I)<|ax I (bN qi I I)<|ax I (gy nb I)<|ax I (mX I)<|ax I (rn I) ?_
      obtain⟨t1,h1t,h0t⟩:=og q_t
      have q_t1g:=fun A=>(h1t A).1
      refine fk I I I I (fun V=>nM iw I I)<|fk I I I I (fun V=>ba (r:=bD) (ys:=[e4]) (xs:=[.tmp 114]) KR iw I I I I I ⟨(bE I V),Q⟩) ?_
      obtain⟨r1,h1t1,h0t1⟩:=Yg q_t1g
      have q_r1g:=fun A=>(h1t1 A).1
      refine fk I I I I (fun V=>bq Uc (Ku _ (q_r1g V)) ⟨(bE I V),Q⟩)<|ax I (fun V=>cD (bE I V) (fun A=>(bE I (sr V (mD A)))) (fun A=>(h1t1 (sr V A)).2) (fun A=>h0t1 V A))<|d (co (M I) (fun A=>(bE I A)) (fun A=>(h1t A).2) h0t)<|gx I<|br<|bn<|aq<|aL<|d (wB (NV hx3 (by decide)) (M I) hI)<|aY I<|br ?_;exact aO (ay (ih3 (i3+1) t ⟨NU hx3,h⟩) (a8 I))
    ·obtain⟨hx2,h⟩:=h
     refine dg hx2 I<|aA<|ai<|aV<|d9 wj vB I (cW hx2)<|aX vB Ai I fun b1=>bM vB aj I<|aQ 9 I<|bP<|aL<|aY I<|aY I ?_;refine cu h fun t2 q_t2 h=>ax I (bQ Kb xF I I)<|ax I (bN ja I I) ?_
     obtain⟨r2,h1t2,h0t2⟩:=og q_t2
     have q_r2g:=fun A=>(h1t2 A).1
     refine ax I (fun V=>bq Mw (zR _ (q_r2g V)) ⟨(bE I V),Q⟩)<|d (co (M I) (fun A=>(bE I A)) (fun A=>(h1t2 A).2) h0t2)<|aY I<|cu h fun t3 q_t3 h=>ax I (bQ Kc xG I I)<|ax I (bN ja I I) ?_
     obtain⟨r3,h1t3,h0t3⟩:=og q_t3
     have q_r3g:=fun A=>(h1t3 A).1
     refine ax I (fun V=>bq Qw (FI _ (q_r3g V)) ⟨(bE I V),Q⟩)<|d (co (M I) (fun A=>(bE I A)) (fun A=>(h1t3 A).2) h0t3)<|gx I<|br<|cS hx2 hN2 I ?_;exact aO (ay (ih2 (i2+1) t3 ⟨cO hx2,h⟩) (a8 I))
   ·obtain⟨hx1,h⟩:=h
    refine dg hx1 I<|aA<|ai<|aV<|d9 rD my I (cW hx1)<|aX my uP I fun b2=>bM my aj I<|aQ 7 I<|bP<|aL<|aY I<|aY I ?_;refine cu h fun t4 q_t4 h=>ax I (bQ zO sU I I)<|ax I (bN iw I I)<|ax I (fun V=>ba (r:=bD) (ys:=[e1.On]) (xs:=[.tmp 70]) KR iw I I I I I ⟨(bE I V),Q⟩) ?_
    obtain⟨r4,h1t4,h0t4⟩:=og q_t4
    have q_r4g:=fun A=>(h1t4 A).1
    refine ax I (fun V=>bq Uc (Ku _ (q_r4g V)) ⟨(bE I V),Q⟩)<|d (co (M I) (fun A=>(bE I A)) (fun A=>(h1t4 A).2) h0t4)<|aY I<|cu h fun t5 q_t5 h=>ax I (bQ Eh vo I I)<|ax I (bN tQ I I) ?_
    obtain⟨r5,h1t5,h0t5⟩:=og q_t5
    have q_r5g:=fun A=>(h1t5 A).1
    refine ax I (fun V=>bq Xv (Qe _ (q_r5g V)) ⟨(bE I V),Q⟩)<|d (co (M I) (fun A=>(bE I A)) (fun A=>(h1t5 A).2) h0t5)<|gx I<|br<|cS hx1 hN1 I ?_;exact aO (ay (ih1 (i1+1) t5 ⟨cO hx1,h⟩) (a8 I))
  ·obtain⟨D,h⟩:=h
   refine dg D I<|aA<|ai<|aV<|d9 pe nH I (cW D)<|aX nH tg I fun b3=>bM nH aj I<|aQ 5 I<|bP<|aL<|aY I<|aY I ?_;refine cu h fun t6 q_t6 h=>ax I (bQ ql j9 I I)<|ax I (bN iw I I)<|ax I (fun V=>ba (r:=bD) (ys:=[e.Tree]) (xs:=[.tmp 50]) KR iw I I I I I ⟨(bE I V),Q⟩) ?_
   obtain⟨r6,h1t6,h0t6⟩:=og q_t6
   have q_r6g:=fun A=>(h1t6 A).1
   refine ax I (fun V=>bq Uc (Ku _ (q_r6g V)) ⟨(bE I V),Q⟩)<|d (co (M I) (fun A=>(bE I A)) (fun A=>(h1t6 A).2) h0t6)<|aY I<|cu h fun t7 q_t7 h=>ax I (bQ Eg vp I I)<|ax I (bN ja I I) ?_
   obtain⟨r7,h1t7,h0t7⟩:=og q_t7
   have q_r7g:=fun A=>(h1t7 A).1
   refine ax I (fun V=>bq Qw (FI _ (q_r7g V)) ⟨(bE I V),Q⟩)<|d (co (M I) (fun A=>(bE I A)) (fun A=>(h1t7 A).2) h0t7)<|gx I<|br<|cS D hN I ?_;exact aO (ay (ih (i+1) t7 ⟨cO D,h⟩) (a8 I))

def Yw s{R}(h:ug s=some R):cN bd 91 [Z aW s] (iD R):=by
 exact dp Tryz.func91 I<|aV<|cL I<|bC<|bP<|aV<|cM pj I<|eg h acs (Yv _) (da I) fun r h=>d (fD (M I))<|bj I<|so h▸au I I

def YV q{R}(h:AJ q=some R):cN bd 39 [Z cw q] (bf R):=by
 refine dp Tryz.func39 I<|aV<|cL I<|bF<|bP<|aV<|aU pJ jv zq I<|bY tL I<|d (eX (M I) hI)<|aY I<|ax I (bQ pJ jv I I)<|ax I (bN zq I I)<|ax I (gy tL I)<|ax I (fun V=>kr (bE I V) hI)<|eZ I<|aY I<|ax I (bQ si j8 I I)<|ax I (bN BF I I)<|ax I (gy wZ I)<|ax I (fun V=>kr (bE I V) hI) ?_;refine eZ I<|aY I<|cu h fun t q_t h=>ax I (bQ zQ pI I I)<|ax I (bN cF I I)<|ax I (mX I)<|ax I (rn I) ?_
 obtain⟨t1,h1t,h0t⟩:=og q_t
 have q_t1g:=fun A=>(h1t A).1
 refine fk I I I I (fun V=>kO zQ pI I I)<|fk I I I I (fun V=>eS cF I I (bE I V)) ?_
 obtain⟨r,h1t1,h0t1⟩:=Yg q_t1g
 have q_rg:=fun A=>(h1t1 A).1
 refine fk I I I I (fun V=>bq aaQ (Tz _ (q_rg V)) ⟨(bE I V),Q⟩)<|ax I (fun V=>cD (bE I V) (fun A=>(bE I (sr V (mD A)))) (fun A=>(h1t1 (sr V A)).2) (fun A=>h0t1 V A))<|d (co (M I) (fun A=>(bE I A)) (fun A=>(h1t A).2) h0t)<|bh I<|aR<|aU si j8 BF I<|bY wZ I<|d (bB hI)<|bP<|ai<|aN (k:=33) I fun hN=>bp ?_;refine ay (jX (tD:=fun ls i ok=>(q.Keys.drop i=ls)/\qd q ls ok=some R) (Of:=fun _ i ok=>[]) (Gf:=fun _ i ok=>[(1,bo cw q),(3,iD ok),(33,gb (je) q.Keys),(34,iG q.Keys),(35,bf (i:Int))]) (fun i ok h=>?_) (fun e tl ih i ok h=>?_) q.Keys 0 t ⟨I,h⟩) (a8 I)
 ·obtain⟨D,h⟩:=h
  refine dh D I<|aq<|aR<|aY I<|d (fD (M I))<|aY I<|cu h fun t2 q_t2 h=>ap I (bQ pJ jv I I)<|ap I (bN zq I I) ?_
  obtain⟨r1,h1t2,h0t2⟩:=og q_t2
  have q_r1g:=fun A=>(h1t2 A).1
  refine ap I (fun V=>bq acu (Yx _ _ (q_r1g V)) ⟨(bE I V),(Yl act fun x y h=>Yw _ h),Q⟩)<|d (cD (M I) (fun A=>(bE I (mD A))) (fun A=>(h1t2 A).2) h0t2)<|bX h I (fun h=>?_) (fun h=>?_)
  ·exact aV<|dG<|af<|so h▸au I I
  ·exact gp<|aV<|dG<|so h▸au I I
 ·obtain⟨D,h⟩:=h
  refine dg D I<|aA<|ai<|aV<|d9 wZ vC I (cW D)<|aX vC F0 I fun b=>bM vC aj I<|aQ 5 I<|bP<|aL<|aY I<|aY I ?_;refine cu h fun t3 q_t3 h=>ax I (bQ yo qI I I)<|ax I (bN ja I I)<|ax I (fun V=>fW (bE I V) hS)<|ax I (rn I) ?_
  obtain⟨t4,h1t3,h0t3⟩:=og q_t3
  have q_t4g:=fun A=>(h1t3 A).1
  refine em I I I I (fun V=>kO vY oz I I)<|em I I I I (fun V=>eS cF I I (bE I V)) ?_
  obtain⟨r2,h1t4,h0t4⟩:=Yg q_t4g
  have q_r2g:=fun A=>(h1t4 A).1
  refine em I I I I (fun V=>bq aaQ (Tz _ (q_r2g V)) ⟨(bE I V),Q⟩)<|ax I (fun V=>co (bE I V) (fun A=>(bE I (sr V A))) (fun A=>(h1t4 (sr V A)).2) (fun A=>h0t4 V A))<|ax I (rn I) ?_
  obtain⟨t5,h1t3⟩:=Sk (fun A=>(h1t3 A).2)
  have q_t5g:=fun A=>(h1t3 A).1
  refine fk I I I I (fun V=>kO yo qI I I)<|fk I I I I (fun V=>eS ja I I (bE I V)) ?_
  obtain⟨r3,h1t5,h0t5⟩:=Yg q_t5g
  have q_r3g:=fun A=>(h1t5 A).1
  refine fk I I I I (fun V=>bq Mw (zR _ (q_r3g V)) ⟨(bE I V),Q⟩)<|fk I I I I (fun V=>bB (bE I V))<|em I I I I (fun V=>kO vY oz I I)<|em I I I I (fun V=>eS cF I I (bE I V))<|em I I I I (fun V=>m6 (bE I V) hI)<|fk I I I I (fun V=>jr (bE I V) (fun A=>(bE I (sr V A))))<|ax I (fun V=>cD (bE I V) (fun A=>(bE I (sr V (mD A)))) (fun A=>(h1t5 (sr V A)).2) (fun A=>h0t5 V A))<|d (co (M I) (fun A=>(bE I A)) (fun A=>(h1t3 A).2) h0t3)<|gx I<|br<|cS D hN I ?_;exact aO (ay (ih (i+1) t3 ⟨cO D,h⟩) (a8 I))

def V0 c name{R}(h:qb c name=some R):cN bd 173 [Z bG c,Z rS name] (tT [bf R.1,iD R.2]):=by
 exact dp Tryz.func173 I<|aV<|cL I<|bF<|bC<|bP<|aV<|aU kX dE sL I<|aY I<|eg h Xx (Qg _ _ _) ⟨(M I),(Yl aaR fun x y h=>TA _ h),(M I),Q⟩ fun r h=>cU I I<|cU I I<|gx I<|bj I<|so h▸c0 I I I

def VZ s{R}(h:wU s=some R):cN bd 174 [Z be s] (Z rS R):=by
 refine dp Tryz.func174 I<|aV<|cL I<|d (cg hS)<|bP<|aR<|aU Ej pG ja I<|d (fW (M I) hS)<|bX h I (fun h=>?_) (fun h=>?_)
 ·exact aV<|aU Ek pH ja I<|bj I<|af<|so h▸au I I
 ·exact gp<|aV<|aU Ej pG ja I<|bj I<|so h▸au I I

set_option maxHeartbeats 4000000 in
def TK(b:Nat)(ix:OI) s p{R}(h:ir s p=some R):ea bd 139 [tV (an b 0),Z be p] (dq b s ix) (fun _:OI=>bf R.1) (fun j=>dq b R.2 j):=by
 refine ea.of Tryz.func139 I I I fun w0 S0=>?_;refine(show CG _ _ _ [bx (rH aS (z10 ix s)) 127 b s,K aP 3 (ix.h 0).1 (ix.h 0).2 s.out.Tables,K av 71 (ix.h 1).1 (ix.h 1).2 s.out.Joins,K aP 3 (ix.h 2).1 (ix.h 2).2 s.out.Keys,K aT 73 (ix.h 3).1 (ix.h 3).2 s.out.Aggs,K ac 62 (ix.h 4).1 (ix.h 4).2 s.out.Items,K aP 3 (ix.h 5).1 (ix.h 5).2 s.kinds,K aP 3 (ix.h 6).1 (ix.h 6).2 s.groups,ci mW ew (ix.h 7).2 none (ix.oss 0) s.called,ci fe ew (ix.h 8).2 none (ix.oss 1) s.alone,eO (fun y:Int=>bf y) lc (ix.h 9).2 s.behind] _ from ?_);refine aV<|cL I<|bF<|bP<|aA<|cu h fun r q_r h=>?_
 refine d8 (ts:=[_,_,_,_,_,_,_,_,_,_,_,_]) mixed I I
  ⟨fv I I,
  ⟨fL 12 0 I I (bm (M I)),
  ⟨fL 13 1 I I (lu 0 Kk I I I),
  ⟨fL 14 2 I I (bA (r:=rH aS (z10 ix s)) (x:=s) pl I I (nI BY) (.head _) (M I)),
  ⟨qN 3 I I (kO Ek pH I I),
  ⟨fA 4 ja I I,
  ⟨eh 15 3 17 5 I I I (bq abo (V0 _ _ q_r) ⟨(M I),(M I),Q⟩),
  ⟨fL 18 6 I I (fR I),
  ⟨fL 11 7 I I (w9 I I),
  ⟨fL 11 7 I I (w9 I I),
  ⟨fL 19 8 I I (Cm I),
  ⟨fL 20 9 I I (Cm I),
  Q⟩⟩⟩⟩⟩⟩⟩⟩⟩⟩⟩⟩ ?_
 refine aq<|aV<|cM tQ I<|eg h abn (VZ _) (da I) fun r1 h=>bh I<|aA<|ai<|aI I<|d (fD (M I))<|bh I<|lO h I (fun h=>?_) (fun h=>?_)
 ·exact aV<|dG<|bT<|so h▸eu I ix I I (fun _ _ h=>h)
 ·refine aI I<|d (bm (M I))<|bu 19 PW I<|d (qE WZ I (.head _) (M I))<|aY I<|d (NO (γ:=fun y:Bool=>Z rB y) (z:=false) Tryz.underlying123 (C1 nG) zv4 (fun S=>⟨_,I,(fun _=>I) S⟩) (.tail _ (.tail _ (.tail _ (.tail _ (.tail _ (.tail _ (.tail _ (.tail _ (.head _))))))))) (M I) (Td (M I)))<|bh I<|lO h I (fun h=>?_) (fun h=>?_)
  ·exact aV<|dG<|bT<|so h▸eu I ix I I (fun _ _ h=>h)
  ·refine bl<|bn<|aq<|aI I<|d (bm (M I))<|bu 19 PW I<|d (qE WZ I (.head _) (M I))<|aY I<|Js<|WK (γ:=fun y:Bool=>iD y) Tryz.underlying123 (C1 nG) (M I) (Td (M I)) hB fun os=>dS<|OP (r' :=rH aS (z10 ix s)) (x' :=({s with called:=(kh s.called r1 true)}:am)) (fun _ _ _ _ h=>h) ?_;refine(show RG _ _ _ _ [_,_,_,_,_,_,_,_,_,_,_] _ from ?_);refine bP<|aI I<|aY I<|d (bm (M I))<|bu 10 gE I<|bu 10 rh I<|d (cR fV I (.head _) (.tail _ (.tail _ (.head _))) (M I))<|aY I<|d (ba (r:=aP) (ys:=[r.1]) (xs:=[.tmp 44]) fH cF I I I I I ⟨(M I),Q⟩)<|hU<|cu h fun l q_l h=>md cF I I I I fH I I (M I) (M I) q_l fun l1 c=>d (bm (M I))<|bu 10 gE I<|bu 10 rh I<|fZ (EffOK.fr1 (il (hs' :=[(10,Y l1 c l.length),(11,Y (ix.h 1).1 (ix.h 1).2 s.out.Joins.length),(16,Y (ix.h 2).1 (ix.h 2).2 s.out.Keys.length),(17,Y (ix.h 3).1 (ix.h 3).2 s.out.Aggs.length),(18,Y (ix.h 4).1 (ix.h 4).2 s.out.Items.length),(22,Y (ix.h 5).1 (ix.h 5).2 s.kinds.length),(23,Y (ix.h 6).1 (ix.h 6).2 s.groups.length),(19,aH (ix.h 7).2),(20,aH (ix.h 8).2),(21,aH (ix.h 9).2)]) (u:=Y l1 c l.length) fV I I (gc iL mO CL) I ⟨.inl ⟨I,I,I⟩,.inr ⟨I,I⟩,.inr ⟨I,I⟩,.inr ⟨I,I⟩,.inr ⟨I,I⟩,.inr ⟨I,I⟩,.inr ⟨I,I⟩,.inr ⟨I,I⟩,.inr ⟨I,I⟩,.inr ⟨I,I⟩,Q⟩ (M I) (kp (M I)) (tR (M I)))) fun i=>?_;refine(show RG _ _ _ _ [_,_,_,_,_,_,_,_,_,_,_] _ from ?_);refine cu h fun sc q_sc h=>oB (O' :=[bx (rH aS [(10,Y l1 c sc.out.Tables.length),(11,Y (ix.h 1).1 (ix.h 1).2 sc.out.Joins.length),(16,Y (ix.h 2).1 (ix.h 2).2 sc.out.Keys.length),(17,Y (ix.h 3).1 (ix.h 3).2 sc.out.Aggs.length),(18,Y (ix.h 4).1 (ix.h 4).2 sc.out.Items.length),(22,Y (ix.h 5).1 (ix.h 5).2 sc.kinds.length),(23,Y (ix.h 6).1 (ix.h 6).2 sc.groups.length),(19,aH (ix.h 7).2),(20,aH (ix.h 8).2),(21,aH (ix.h 9).2)]) 127 b sc,K aP 3 l1 c sc.out.Tables,ci mW ew (ix.h 7).2 none os sc.called,K av 71 (ix.h 1).1 (ix.h 1).2 sc.out.Joins,K aP 3 (ix.h 2).1 (ix.h 2).2 sc.out.Keys,K aT 73 (ix.h 3).1 (ix.h 3).2 sc.out.Aggs,K ac 62 (ix.h 4).1 (ix.h 4).2 sc.out.Items,K aP 3 (ix.h 5).1 (ix.h 5).2 sc.kinds,K aP 3 (ix.h 6).1 (ix.h 6).2 sc.groups,ci fe ew (ix.h 8).2 none (ix.oss 1) sc.alone,eO (fun y:Int=>bf y) lc (ix.h 9).2 sc.behind]) (by cases so q_sc;exact I)<|bP<|aR<|aY I<|d (bm (M I))<|bu 0 Kk I<|bu 0 kX I<|d (bA (r:=rH aS [(10,Y l1 c sc.out.Tables.length),(11,Y (ix.h 1).1 (ix.h 1).2 sc.out.Joins.length),(16,Y (ix.h 2).1 (ix.h 2).2 sc.out.Keys.length),(17,Y (ix.h 3).1 (ix.h 3).2 sc.out.Aggs.length),(18,Y (ix.h 4).1 (ix.h 4).2 sc.out.Items.length),(22,Y (ix.h 5).1 (ix.h 5).2 sc.kinds.length),(23,Y (ix.h 6).1 (ix.h 6).2 sc.groups.length),(19,aH (ix.h 7).2),(20,aH (ix.h 8).2),(21,aH (ix.h 9).2)]) (x:=sc) sL I I (nI (fj BY dE)) (.head _) (M I))<|aY I<|cu h fun e q_e h=>uH qp jN I q_e<|aU iF ev oq I<|bY ol I<|d (bB hI)<|bP<|ai<|aN (k:=58) I fun hN=>bp ?_;refine fF<|fF<|Ev<|fF<|fF<|fF<|fF<|fF<|fF<|fF<|fF ?_;refine ay (uk (tD:=fun ls i1 ob ix1=>(e.Columns.drop i1=ls)/\gQ r1 ls ob=some R) (Of:=fun _ i1 ob (ix1:OI)=>[bx (rH aS (z10 ix1 ob)) 127 b ob,K aP 3 (ix1.h 0).1 (ix1.h 0).2 ob.out.Tables,K av 71 (ix1.h 1).1 (ix1.h 1).2 ob.out.Joins,K aP 3 (ix1.h 2).1 (ix1.h 2).2 ob.out.Keys,K aT 73 (ix1.h 3).1 (ix1.h 3).2 ob.out.Aggs,K ac 62 (ix1.h 4).1 (ix1.h 4).2 ob.out.Items,K aP 3 (ix1.h 5).1 (ix1.h 5).2 ob.kinds,K aP 3 (ix1.h 6).1 (ix1.h 6).2 ob.groups,ci mW ew (ix1.h 7).2 none (ix1.oss 0) ob.called,ci fe ew (ix1.h 8).2 none (ix1.oss 1) ob.alone,eO (fun y:Int=>bf y) lc (ix1.h 9).2 ob.behind]) (Gf:=fun _ i1 ob ix1=>[(0,tV (an b 0)),(7,Z rS r1),(58,gb (cQ) e.Columns),(59,iG e.Columns),(60,bf (i1:Int))]) (fun i1 ob ix1 h=>?_) (fun e1 tl ih i1 ob ix1 h=>?_) e.Columns 0 sc (Va [(l1,c),((ix.h 1).1,(ix.h 1).2),((ix.h 2).1,(ix.h 2).2),((ix.h 3).1,(ix.h 3).2),((ix.h 4).1,(ix.h 4).2),((ix.h 5).1,(ix.h 5).2),((ix.h 6).1,(ix.h 6).2),(none,(ix.h 7).2),(none,(ix.h 8).2),(none,(ix.h 9).2)] [os,(ix.oss 1),[]]) ⟨I,h⟩) (a8 I)
   ·obtain⟨D,h⟩:=h
    exact dh D I<|aq<|aV<|dG<|so h▸eu I ix1 I I (fun _ _ h=>h)
   ·obtain⟨D,h⟩:=h
    refine dg D I<|aA<|ai<|aV<|d9 ol jg I (cW D)<|aX jg oC I fun b1=>bM jg aj I<|aQ 9 I<|bP<|aI I ?_;refine d (bm (M I))<|bu 22 wN I<|d (cR fV I (.head _) (.tail _ (.tail _ (.tail _ (.tail _ (.tail _ (.tail _ (.head _))))))) (M I))<|d (fO fH (kp (M I)))<|bh I<|aA<|cu h fun l9 q_l9 h=>?_
    refine er 16 [tc (tV (an b 0)),tc (tV (an b 0)),tc (tV (an b 20)),tc (tV (aH (ix1.h 8).2)),tc (bo rS e1.Name),tc (Z rS e1.Name),tc (tV (an b 0)),tc (tV (an b 0)),tc (tV (an b 20)),tc (tV (aH (ix1.h 8).2)),tc (bo rS e1.Name),tc (Z rS e1.Name),([12],fun s=>tO aP ((s.getD 0 oD).h 0).1 ((s.getD 0 oD).h 0).2 ((ie ob.alone e1.Name).getD [])),tc (iG ob.kinds),tc (qn ([(ob.kinds.length:Int)])),([15],fun s=>tO aP ((s.getD 0 oD).h 0).1 ((s.getD 0 oD).h 0).2 l9)] [false,false,false,false,false,false,false,false,false,false,false,false,true,false,false,true] [fun _=>[bx (rH aS (z10 ix1 ob)) 127 b ob,K aP 3 (ix1.h 0).1 (ix1.h 0).2 ob.out.Tables,K av 71 (ix1.h 1).1 (ix1.h 1).2 ob.out.Joins,K aP 3 (ix1.h 2).1 (ix1.h 2).2 ob.out.Keys,K aT 73 (ix1.h 3).1 (ix1.h 3).2 ob.out.Aggs,K ac 62 (ix1.h 4).1 (ix1.h 4).2 ob.out.Items,K aP 3 (ix1.h 5).1 (ix1.h 5).2 ob.kinds,K aP 3 (ix1.h 6).1 (ix1.h 6).2 ob.groups,ci mW ew (ix1.h 7).2 none (ix1.oss 0) ob.called,ci fe ew (ix1.h 8).2 none (ix1.oss 1) ob.alone,eO (fun y:Int=>bf y) lc (ix1.h 9).2 ob.behind],fun sg=>[K aP 3 ((sg 12).h 0).1 ((sg 12).h 0).2 ((ie ob.alone e1.Name).getD []),ci fe ew (ix1.h 8).2 (some e1.Name) (sg 12).os ob.alone,bx (rH aS (z10 ix1 ob)) 127 b ob,K aP 3 (ix1.h 0).1 (ix1.h 0).2 ob.out.Tables,K av 71 (ix1.h 1).1 (ix1.h 1).2 ob.out.Joins,K aP 3 (ix1.h 2).1 (ix1.h 2).2 ob.out.Keys,K aT 73 (ix1.h 3).1 (ix1.h 3).2 ob.out.Aggs,K ac 62 (ix1.h 4).1 (ix1.h 4).2 ob.out.Items,K aP 3 (ix1.h 5).1 (ix1.h 5).2 ob.kinds,K aP 3 (ix1.h 6).1 (ix1.h 6).2 ob.groups,ci mW ew (ix1.h 7).2 none (ix1.oss 0) ob.called,eO (fun y:Int=>bf y) lc (ix1.h 9).2 ob.behind],fun sg=>[K aP 3 ((sg 15).h 0).1 ((sg 15).h 0).2 l9,ci fe ew (ix1.h 8).2 (some e1.Name) (sg 12).os ob.alone,bx (rH aS (z10 ix1 ob)) 127 b ob,K aP 3 (ix1.h 0).1 (ix1.h 0).2 ob.out.Tables,K av 71 (ix1.h 1).1 (ix1.h 1).2 ob.out.Joins,K aP 3 (ix1.h 2).1 (ix1.h 2).2 ob.out.Keys,K aT 73 (ix1.h 3).1 (ix1.h 3).2 ob.out.Aggs,K ac 62 (ix1.h 4).1 (ix1.h 4).2 ob.out.Items,K aP 3 (ix1.h 5).1 (ix1.h 5).2 ob.kinds,K aP 3 (ix1.h 6).1 (ix1.h 6).2 ob.groups,ci mW ew (ix1.h 7).2 none (ix1.oss 0) ob.called,eO (fun y:Int=>bf y) lc (ix1.h 9).2 ob.behind]] I mixed I I I I I
     ⟨⟨[⟨0,fun _=>tV (an b 0),none⟩],_,0,2,I,⟨(fun _=>I),Q⟩,I,I,I,I,I,fun _ sg _ _=>h2 I (fR I)⟩,
     ⟨⟨[⟨69,fun _=>tV (an b 0),some 0⟩],_,0,2,I,⟨(fun _=>I),Q⟩,I,I,I,I,I,fun _ sg _ _=>h2 I (bm (M I))⟩,
     ⟨⟨[⟨70,fun _=>tV (an b 0),some 1⟩],_,0,2,I,⟨(fun _=>I),Q⟩,I,I,I,I,I,fun _ sg _ _=>h2 I (lu 20 Kj I I I)⟩,
     ⟨⟨[⟨71,fun _=>tV (an b 20),some 2⟩],_,0,2,I,⟨(fun _=>I),Q⟩,I,I,I,I,I,ur (fun sg=>h2 I (qE K9 I (.head _) (M I))) (ur (fun sg=>h2 I (qE K9 I (.tail _ (.tail _ (.head _))) (M I))) (fM (fun sg=>h2 I (qE K9 I (.tail _ (.tail _ (.head _))) (M I)))))⟩,
     ⟨⟨[⟨9,fun _=>bo cQ e1,none⟩],_,0,2,I,⟨(fun _=>I),Q⟩,I,I,I,I,I,fun _ sg _ _=>h2 I (kO tA ky I I)⟩,
     ⟨⟨[⟨73,fun _=>bo rS e1.Name,some 4⟩],_,0,2,I,⟨(fun _=>I),Q⟩,I,I,I,I,I,fun _ sg _ _=>h2 I (nM ja I I)⟩,
     ⟨⟨[⟨0,fun _=>tV (an b 0),none⟩],_,0,0,I,⟨(fun _=>I),Q⟩,I,I,I,I,I,fun _ sg _ _=>h2 I (fR I)⟩,
     ⟨⟨[⟨75,fun _=>tV (an b 0),some 6⟩],_,0,0,I,⟨(fun _=>I),Q⟩,I,I,I,I,I,fun _ sg _ _=>h2 I (bm (M I))⟩,
     ⟨⟨[⟨76,fun _=>tV (an b 0),some 7⟩],_,0,0,I,⟨(fun _=>I),Q⟩,I,I,I,I,I,fun _ sg _ _=>h2 I (lu 20 Kj I I I)⟩,
     ⟨⟨[⟨77,fun _=>tV (an b 20),some 8⟩],_,0,0,I,⟨(fun _=>I),Q⟩,I,I,I,I,I,fM (fun sg=>h2 I (qE K9 I (.head _) (M I)))⟩,
     ⟨⟨[⟨9,fun _=>bo cQ e1,none⟩],_,0,0,I,⟨(fun _=>I),Q⟩,I,I,I,I,I,fun _ sg _ _=>h2 I (kO tA ky I I)⟩,
     ⟨⟨[⟨79,fun _=>bo rS e1.Name,some 10⟩],_,0,0,I,⟨(fun _=>I),Q⟩,I,I,I,I,I,fun _ sg _ _=>h2 I (nM ja I I)⟩,
     ⟨⟨[⟨78,fun _=>tV (aH (ix1.h 8).2),some 9⟩,⟨80,fun _=>Z rS e1.Name,some 11⟩],_,I,⟨(fun _=>I),(fun _=>I),Q⟩,I,I,I,fun sg=>bL I (EffOK.fr9 (RT Tryz.underlying124 (C1 nG) ZB (M I) (Td (M I))))⟩,
     ⟨⟨[⟨10,fun _=>Z aP (ob.kinds.length:Int),none⟩],_,0,1,I,⟨(fun _=>I),Q⟩,I,I,I,I,I,fun _ sg _ _=>h2 I (fR I)⟩,
     ⟨⟨[⟨82,fun _=>Z aP (ob.kinds.length:Int),some 13⟩],_,0,1,I,⟨(fun _=>I),Q⟩,I,I,I,I,I,fun _ sg _ _=>h2 I (ba (r:=aP) (ys:=[(ob.kinds.length:Int)]) (xs:=[.tmp 82]) fH cF I I I I I ⟨(M I),Q⟩)⟩,
     ⟨⟨[⟨81,fun sg=>tO aP ((sg 12).h 0).1 ((sg 12).h 0).2 ((ie ob.alone e1.Name).getD []),some 12⟩,⟨83,fun _=>Z DD ([(ob.kinds.length:Int)]),some 14⟩],_,I,⟨(fun _=>I),(fun _=>I),Q⟩,I,I,I,fun sg=>bL I (iq cF I I I I fH I (M I) (M I) q_l9)⟩,
     Q⟩⟩⟩⟩⟩⟩⟩⟩⟩⟩⟩⟩⟩⟩⟩⟩ (fun sg=>?_)
    refine(show RG _ _ _ _ [_,_,_,_,_,_,_,_,_,_,_,_] _ from ?_);refine dS<|dS<|WL Tryz.underlying124 (C1 nG) (M I) (Td (M I)) (M I) fun os1=>dS<|OP (r' :=rH aS (z10 ix1 ob)) (x' :=({ob with alone:=(kh ob.alone e1.Name l9)}:am)) (fun _ _ _ _ h=>h) ?_;refine(show RG _ _ _ _ [_,_,_,_,_,_,_,_,_,_,_] _ from ?_);refine bP<|aA ?_
    refine xN 9 (ts:=[tV (an b 0),tV (an b 0),tV (an b 21),tV (aH (ix1.h 9).2),Z rS r1,bo rS e1.Name,Z rS e1.Name,Z fI (⟨r1,e1.Name⟩:jY),iG ob.kinds]) mixed I I I
     ⟨fv I I,
     ⟨fL 85 0 I I (bm (M I)),
     ⟨fL 86 1 I I (lu 21 PV I I I),
     ⟨fL 87 2 I I (qE WY I (.head _) (M I)),
     ⟨fv I I,
     ⟨qN 9 I I (kO tA ky I I),
     ⟨fA 5 ja I I,
     ⟨eh 89 4 91 6 I I I (bS (y:=(⟨r1,e1.Name⟩:jY)) vB aae Ai (⟨_,_,_,_,_,I,IQ,I,(M I),⟨_,_,_,_,_,I,IP,I,(M I),I⟩⟩)),
     ⟨fv I I,
     Q⟩⟩⟩⟩⟩⟩⟩⟩⟩ ?_
    refine OO<|WM (γ:=fun y:Int=>bf y) Tryz.underlying125 aaa (M I) (Te (p:=((⟨r1,e1.Name⟩:jY).Table,(⟨r1,e1.Name⟩:jY).Name)) I (fun _ _ h=>aac h) (M I)) (M I)<|dS<|OP (r' :=rH aS (z10 ix1 ob)) (x' :=({({ob with alone:=(kh ob.alone e1.Name l9)}:am)with behind:=(kh ob.behind ((⟨r1,e1.Name⟩:jY).Table,(⟨r1,e1.Name⟩:jY).Name) (ob.kinds.length:Int))}:am)) (fun _ _ _ _ h=>h) ?_;refine(show RG _ _ _ _ [_,_,_,_,_,_,_,_,_,_,_] _ from ?_);refine cu h fun sc1 q_sc1 h=>oB (O' :=[bx (rH aS (z10 ix1 sc1)) 127 b sc1,eO (fun y:Int=>bf y) lc (ix1.h 9).2 sc1.behind,ci fe ew (ix1.h 8).2 none os1 sc1.alone,K aP 3 (ix1.h 0).1 (ix1.h 0).2 sc1.out.Tables,K av 71 (ix1.h 1).1 (ix1.h 1).2 sc1.out.Joins,K aP 3 (ix1.h 2).1 (ix1.h 2).2 sc1.out.Keys,K aT 73 (ix1.h 3).1 (ix1.h 3).2 sc1.out.Aggs,K ac 62 (ix1.h 4).1 (ix1.h 4).2 sc1.out.Items,K aP 3 (ix1.h 5).1 (ix1.h 5).2 sc1.kinds,K aP 3 (ix1.h 6).1 (ix1.h 6).2 sc1.groups,ci mW ew (ix1.h 7).2 none (ix1.oss 0) sc1.called]) (by cases so q_sc1;exact I)<|bP<|cu h fun l10 q_l10 h=>?_
    refine er 9 [tc (tV (an b 0)),tc (tV (an b 0)),tc (tV (an b 0)),tc (tV (an b 22)),tc (tO aP (ix1.h 5).1 (ix1.h 5).2 sc1.kinds),tc (bo aP e1.Kind),tc (bf e1.Kind),tc (qn ([e1.Kind])),([8],fun s=>tO aP ((s.getD 0 oD).h 0).1 ((s.getD 0 oD).h 0).2 l10)] [false,false,false,false,false,false,false,false,true] [fun _=>[bx (rH aS (z10 ix1 sc1)) 127 b sc1,eO (fun y:Int=>bf y) lc (ix1.h 9).2 sc1.behind,ci fe ew (ix1.h 8).2 none os1 sc1.alone,K aP 3 (ix1.h 0).1 (ix1.h 0).2 sc1.out.Tables,K av 71 (ix1.h 1).1 (ix1.h 1).2 sc1.out.Joins,K aP 3 (ix1.h 2).1 (ix1.h 2).2 sc1.out.Keys,K aT 73 (ix1.h 3).1 (ix1.h 3).2 sc1.out.Aggs,K ac 62 (ix1.h 4).1 (ix1.h 4).2 sc1.out.Items,K aP 3 (ix1.h 5).1 (ix1.h 5).2 sc1.kinds,K aP 3 (ix1.h 6).1 (ix1.h 6).2 sc1.groups,ci mW ew (ix1.h 7).2 none (ix1.oss 0) sc1.called],fun sg1=>[K aP 3 ((sg1 8).h 0).1 ((sg1 8).h 0).2 l10,bx (rH aS (z10 ix1 sc1)) 127 b sc1,eO (fun y:Int=>bf y) lc (ix1.h 9).2 sc1.behind,ci fe ew (ix1.h 8).2 none os1 sc1.alone,K aP 3 (ix1.h 0).1 (ix1.h 0).2 sc1.out.Tables,K av 71 (ix1.h 1).1 (ix1.h 1).2 sc1.out.Joins,K aP 3 (ix1.h 2).1 (ix1.h 2).2 sc1.out.Keys,K aT 73 (ix1.h 3).1 (ix1.h 3).2 sc1.out.Aggs,K ac 62 (ix1.h 4).1 (ix1.h 4).2 sc1.out.Items,K aP 3 (ix1.h 6).1 (ix1.h 6).2 sc1.groups,ci mW ew (ix1.h 7).2 none (ix1.oss 0) sc1.called]] I mixed I I I I I
     ⟨⟨[⟨0,fun _=>tV (an b 0),none⟩],_,0,1,I,⟨(fun _=>I),Q⟩,I,I,I,I,I,fun _ sg1 _ _=>h2 I (fR I)⟩,
     ⟨⟨[⟨0,fun _=>tV (an b 0),none⟩],_,0,0,I,⟨(fun _=>I),Q⟩,I,I,I,I,I,fun _ sg1 _ _=>h2 I (fR I)⟩,
     ⟨⟨[⟨95,fun _=>tV (an b 0),some 1⟩],_,0,0,I,⟨(fun _=>I),Q⟩,I,I,I,I,I,fun _ sg1 _ _=>h2 I (bm (M I))⟩,
     ⟨⟨[⟨96,fun _=>tV (an b 0),some 2⟩],_,0,0,I,⟨(fun _=>I),Q⟩,I,I,I,I,I,fun _ sg1 _ _=>h2 I (lu 22 wN I I I)⟩,
     ⟨⟨[⟨97,fun _=>tV (an b 22),some 3⟩],_,0,0,I,⟨(fun _=>I),Q⟩,I,I,I,I,I,fM (fun sg1=>h2 I (cR fV I (.head _) (.tail _ (.tail _ (.tail _ (.tail _ (.tail _ (.tail _ (.tail _ (.tail _ (.head _))))))))) (M I)))⟩,
     ⟨⟨[⟨9,fun _=>bo cQ e1,none⟩],_,0,0,I,⟨(fun _=>I),Q⟩,I,I,I,I,I,fun _ sg1 _ _=>h2 I (kO FE ud I I)⟩,
     ⟨⟨[⟨99,fun _=>bo aP e1.Kind,some 5⟩],_,0,0,I,⟨(fun _=>I),Q⟩,I,I,I,I,I,fun _ sg1 _ _=>h2 I (nM cF I I)⟩,
     ⟨⟨[⟨100,fun _=>Z aP e1.Kind,some 6⟩],_,0,0,I,⟨(fun _=>I),Q⟩,I,I,I,I,I,fun _ sg1 _ _=>h2 I (ba (r:=aP) (ys:=[e1.Kind]) (xs:=[.tmp 100]) fH cF I I I I I ⟨(M I),Q⟩)⟩,
     ⟨⟨[⟨98,fun _=>tO aP (ix1.h 5).1 (ix1.h 5).2 sc1.kinds,some 4⟩,⟨101,fun _=>Z DD ([e1.Kind]),some 7⟩],_,I,⟨(fun _=>I),(fun _=>I),Q⟩,I,I,I,fun sg1=>bL I (EffOK.fr8 (iq cF I I I I fH I (M I) (M I) q_l10))⟩,
     Q⟩⟩⟩⟩⟩⟩⟩⟩⟩ (fun sg1=>?_)
    refine(show RG _ _ _ _ [_,_,_,_,_,_,_,_,_,_,_] _ from ?_);refine d (bm (M I))<|bu 22 wN I<|fZ (EffOK.fr1 (il (hs' :=[(10,Y (ix1.h 0).1 (ix1.h 0).2 sc1.out.Tables.length),(11,Y (ix1.h 1).1 (ix1.h 1).2 sc1.out.Joins.length),(16,Y (ix1.h 2).1 (ix1.h 2).2 sc1.out.Keys.length),(17,Y (ix1.h 3).1 (ix1.h 3).2 sc1.out.Aggs.length),(18,Y (ix1.h 4).1 (ix1.h 4).2 sc1.out.Items.length),(22,Y ((sg1 8).h 0).1 ((sg1 8).h 0).2 l10.length),(23,Y (ix1.h 6).1 (ix1.h 6).2 sc1.groups.length),(19,aH (ix1.h 7).2),(20,aH (ix1.h 8).2),(21,aH (ix1.h 9).2)]) (u:=Y ((sg1 8).h 0).1 ((sg1 8).h 0).2 l10.length) fV I I Np I ⟨.inr ⟨I,I⟩,.inr ⟨I,I⟩,.inr ⟨I,I⟩,.inr ⟨I,I⟩,.inr ⟨I,I⟩,.inl ⟨I,I,I⟩,.inr ⟨I,I⟩,.inr ⟨I,I⟩,.inr ⟨I,I⟩,.inr ⟨I,I⟩,Q⟩ (M I) (kp (M I)) (tR (M I)))) fun i2=>?_;refine(show RG _ _ _ _ [_,_,_,_,_,_,_,_,_,_,_] _ from ?_);refine br<|cS D hN I<|gj<|kc<|al<|al<|fG<|al<|al<|al<|al<|al<|al ?_;exact aO (ay (ih (i1+1) ({sc1 with kinds:=l10}:am) (Va [((ix1.h 0).1,(ix1.h 0).2),((ix1.h 1).1,(ix1.h 1).2),((ix1.h 2).1,(ix1.h 2).2),((ix1.h 3).1,(ix1.h 3).2),((ix1.h 4).1,(ix1.h 4).2),(((sg1 8).h 0).1,((sg1 8).h 0).2),((ix1.h 6).1,(ix1.h 6).2),(none,(ix1.h 7).2),(none,(ix1.h 8).2),(none,(ix1.h 9).2)] [(ix1.oss 0),os1,[]]) ⟨cO D,h⟩) (a8 I))

end Go.Proofs.YthbdkceckjihgaaGreatDoor

