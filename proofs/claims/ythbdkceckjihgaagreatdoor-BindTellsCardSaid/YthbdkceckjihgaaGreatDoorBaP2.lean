/- cH of this claim: P2. -/
import Derived.Test.YthbdkceckjihgaaGreatDoorBaT
import Derived.Test.YthbdkceckjihgaaGreatDoorBaP1
set_option linter.all false
namespace Go.Proofs.YthbdkceckjihgaaGreatDoor
open Go
set_option maxRecDepth 100000

def JH t{R}(h:sE t=some R):cw aH 172 [V bh t] (aO R):=by
 refine cX Tryz.func172 I<|aU<|cY I<|bJ<|bG<|aZ<|cN iR I<|eD h NW (Jw _) (dc I) fun r h=>a8 I<|dx I I<|dx I I<|gJ I<|bk I<|aG I<|d (iz (Y I)) ?_;refine cE h I (fun h=>?_) (fun h=>?_)
 ·exact aU<|ev<|ah<|so h▸aA I I
 ·exact ip<|aU<|ev<|so h▸aA I I

def JI t{R}(h:wo t=some R):cw aH 171 [V bh t] (ia R):=by
 exact cX Tryz.func171 I<|aU<|cY I<|bQ<|bG<|aU<|cN iR I<|eD h Oa (JH _) (dc I) fun r h=>ic I<|aR I<|so h▸aA I I

def Ba l{R}(h:rO l=some R):cw aH 137 [fO (bh) l] (ia R):=by
 exact cX Tryz.func137 I<|aU<|bQ<|bG<|aG I<|eD h Od (JJ _ _) ⟨(Y I),(Lw Oc fun x y h=>JI _ h),Q⟩ fun r h=>d (iz (Y I))<|aR I<|so h▸aA I I

def LL s{R}(h:wp s=some R):cw aH 92 [V aV s] (ia R):=by
 refine cX Tryz.func92 I<|aU<|cY I<|bQ<|bG<|aZ<|bN AZ oJ Ev I<|bN nS iO xo I<|cu oW I<|eN I<|d (EF GR (Y I) (Y I))<|a8 I<|aK I (dP nS iO I I)<|aK I (du xo I I)<|aK I (kV oW I)<|aK I (fun K=>fz (bI I K) hI)<|gU I<|a8 I ?_;refine aK I (dP s8 mB I I)<|aK I (du BC I I)<|aK I (kV uU I)<|aK I (fun K=>fz (bI I K) hI)<|gU I<|a8 I<|aK I (dP s6 iN I I)<|aK I (du Ar I I)<|aK I (kV ww I)<|aK I (fun K=>fz (bI I K) hI)<|gU I<|cE h I (fun h=>?_) (fun h=>?_)
 ·exact aU<|bQ<|dh<|ah<|so h▸aA I I
 ·refine ip<|aU<|bN HK wd FH I<|eD h KL (E3 _) (dc I) fun r h=>bk I<|aZ<|bN nS iO xo I<|cu oW I<|d (bt hI)<|bG<|ai<|aQ (k:=41) I fun hN=>bq ?_;refine aE (ft (aw:=fun ls i ok=>(s.Items.drop i=ls)/\n5 s ls ok=some R) (Of:=fun _ i ok=>[]) (Gf:=fun _ i ok=>[(1,bb aV s),(3,ia ok),(41,fO (cV) s.Items),(42,jf s.Items),(43,aO (i:Int))]) (fun i ok h=>?_) (fun e tl ih i ok h=>?_) s.Items 0 r ⟨I,h⟩) (be I)
  ·obtain⟨A,h⟩:=h
   refine dr A I<|av<|aZ<|bN s8 mB BC I<|cu uU I<|d (bt hI)<|bG<|ai<|aQ (k:=61) I fun hN1=>?_;refine bq ?_;refine aE (ft (aw:=fun ls1 i1 ok1=>(s.Joins.drop i1=ls1)/\n4 s ls1 ok1=some R) (Of:=fun _ i1 ok1=>[]) (Gf:=fun _ i1 ok1=>[(1,bb aV s),(3,ia ok1),(61,fO (d7) s.Joins),(62,jf s.Joins),(63,aO (i1:Int))]) (fun i1 ok1 h=>?_) (fun e1 tl1 ih1 i1 ok1 h=>?_) s.Joins 0 ok ⟨I,h⟩) (be I)
   ·obtain⟨hx1,h⟩:=h
    refine dr hx1 I<|av<|aZ<|bN s6 iN Ar I<|cu ww I<|d (bt hI)<|bG<|ai<|aQ (k:=81) I fun hN2=>?_;refine bq ?_;refine aE (ft (aw:=fun ls2 i2 ok2=>(s.Group.drop i2=ls2)/\nZ s ls2 ok2=some R) (Of:=fun _ i2 ok2=>[]) (Gf:=fun _ i2 ok2=>[(1,bb aV s),(3,ia ok2),(81,fO (dS) s.Group),(82,jf s.Group),(83,aO (i2:Int))]) (fun i2 ok2 h=>?_) (fun e2 tl2 ih2 i2 ok2 h=>?_) s.Group 0 ok1 ⟨I,h⟩) (be I)
    ·obtain⟨hx2,h⟩:=h
     refine dr hx2 I<|av<|aZ<|bN ye qW iR I<|bN s7 mA iR I<|d (nr (r:=bh) (ys:=[s.Where,s.Having]) (xs:=[.tmp 100,.tmp 102]) Tryz.underlying209 iR I MW I I ⟨(Y I),(Y I),Q⟩)<|d (bt hI)<|bG ?_;refine ai<|bq ?_;refine aE (Fo (aw:=fun k i3 ok3=>(2-i3=k)/\nY s k i3 ok3=some R) (Of:=fun _ i3 ok3=>[]) (Gf:=fun _ i3 ok3=>[(3,ia ok3),(103,V (lC bh 2) ([s.Where,s.Having])),(104,aO (i3:Int))]) (fun i3 ok3 h=>?_) (fun k1 ih3 i3 ok3 h=>?_) 2 0 ok2 ⟨I,h⟩) (be I)
     ·obtain⟨hx3,h⟩:=h
      exact dg<|aU<|d (fl (Y I) hI)<|bG<|aF<|ly (Y I) (Hs hx3)<|dU<|au<|au<|cj<|av<|aG I<|aR I<|so h▸aA I I
     ·obtain⟨hx3,h⟩:=h
      refine dg<|aU<|d (fl (Y I) hI)<|bG<|aF<|lx (Y I) (Hr hx3)<|ip<|aF<|ai<|aU<|ck h fun e4 q_e4 h=>d (rC Tryz.underlying209 iR I I (Y I) (Y I) q_e4)<|aT iR m7 I fun b=>bX iR al I<|aP 11 I<|bG<|aL<|a8 I<|a8 I ?_;refine ck h fun t q_t h=>aB I (dP kE gv I I)<|aB I (du sP I I)<|aB I (kV nv I)<|aB I (lF I)<|aB I (m4 I) ?_
      obtain⟨t1,h1t,h0t⟩:=og q_t
      have q_t1g:=fun D=>(h1t D).1
      refine cn I I I I (fun K=>o9 iR I I)<|cn I I I I (fun K=>aW (r:=bh) (ys:=[e4]) (xs:=[.tmp 114]) Bv iR I I I I I ⟨(bI I K),Q⟩) ?_
      obtain⟨r1,h1t1,h0t1⟩:=I4 q_t1g
      have q_r1g:=fun D=>(h1t1 D).1
      refine cn I I I I (fun K=>bp Ii (Ba _ (q_r1g K)) ⟨(bI I K),Q⟩)<|aB I (fun K=>cP (bI I K) (fun D=>(bI I (ku K (lD D)))) (fun D=>(h1t1 (ku K D)).2) (fun D=>h0t1 K D))<|d (cb (Y I) (fun D=>(bI I D)) (fun D=>(h1t D).2) h0t)<|gJ I<|bu<|bl<|av<|aL<|d (pF (F6 hx3 (by decide)) (Y I) hI)<|a8 I<|bu ?_;exact aM (aE (ih3 (i3+1) t ⟨F5 hx3,h⟩) (be I))
    ·obtain⟨hx2,h⟩:=h
     refine dq hx2 I<|aF<|ai<|aU<|eM ww u0 I (dv hx2)<|aT u0 wR I fun b1=>bX u0 al I<|aP 9 I<|bG<|aL<|a8 I<|a8 I ?_;refine ck h fun t2 q_t2 h=>aB I (dP HF vv I I)<|aB I (du j5 I I) ?_
     obtain⟨r2,h1t2,h0t2⟩:=og q_t2
     have q_r2g:=fun D=>(h1t2 D).1
     refine aB I (fun K=>bp Cn (q0 _ (q_r2g K)) ⟨(bI I K),Q⟩)<|d (cb (Y I) (fun D=>(bI I D)) (fun D=>(h1t2 D).2) h0t2)<|a8 I<|ck h fun t3 q_t3 h=>aB I (dP HG vw I I)<|aB I (du j5 I I) ?_
     obtain⟨r3,h1t3,h0t3⟩:=og q_t3
     have q_r3g:=fun D=>(h1t3 D).1
     refine aB I (fun K=>bp Fg (w4 _ (q_r3g K)) ⟨(bI I K),Q⟩)<|d (cb (Y I) (fun D=>(bI I D)) (fun D=>(h1t3 D).2) h0t3)<|gJ I<|bu<|db hx2 hN2 I ?_;exact aM (aE (ih2 (i2+1) t3 ⟨cW hx2,h⟩) (be I))
   ·obtain⟨hx1,h⟩:=h
    refine dq hx1 I<|aF<|ai<|aU<|eM uU tM I (dv hx1)<|aT tM Af I fun b2=>bX tM al I<|aP 7 I<|bG<|aL<|a8 I<|a8 I ?_;refine ck h fun t4 q_t4 h=>aB I (dP AW vx I I)<|aB I (du iR I I)<|aB I (fun K=>aW (r:=bh) (ys:=[e1.On]) (xs:=[.tmp 70]) Bv iR I I I I I ⟨(bI I K),Q⟩) ?_
    obtain⟨r4,h1t4,h0t4⟩:=og q_t4
    have q_r4g:=fun D=>(h1t4 D).1
    refine aB I (fun K=>bp Ii (Ba _ (q_r4g K)) ⟨(bI I K),Q⟩)<|d (cb (Y I) (fun D=>(bI I D)) (fun D=>(h1t4 D).2) h0t4)<|a8 I<|ck h fun t5 q_t5 h=>aB I (dP HI zG I I)<|aB I (du FH I I) ?_
    obtain⟨r5,h1t5,h0t5⟩:=og q_t5
    have q_r5g:=fun D=>(h1t5 D).1
    refine aB I (fun K=>bp KL (E3 _ (q_r5g K)) ⟨(bI I K),Q⟩)<|d (cb (Y I) (fun D=>(bI I D)) (fun D=>(h1t5 D).2) h0t5)<|gJ I<|bu<|db hx1 hN1 I ?_;exact aM (aE (ih1 (i1+1) t5 ⟨cW hx1,h⟩) (be I))
  ·obtain⟨A,h⟩:=h
   refine dq A I<|aF<|ai<|aU<|eM oW lJ I (dv A)<|aT lJ pz I fun b3=>bX lJ al I<|aP 5 I<|bG<|aL<|a8 I<|a8 I ?_;refine ck h fun t6 q_t6 h=>aB I (dP pO kL I I)<|aB I (du iR I I)<|aB I (fun K=>aW (r:=bh) (ys:=[e.Tree]) (xs:=[.tmp 50]) Bv iR I I I I I ⟨(bI I K),Q⟩) ?_
   obtain⟨r6,h1t6,h0t6⟩:=og q_t6
   have q_r6g:=fun D=>(h1t6 D).1
   refine aB I (fun K=>bp Ii (Ba _ (q_r6g K)) ⟨(bI I K),Q⟩)<|d (cb (Y I) (fun D=>(bI I D)) (fun D=>(h1t6 D).2) h0t6)<|a8 I<|ck h fun t7 q_t7 h=>aB I (dP HH zI I I)<|aB I (du j5 I I) ?_
   obtain⟨r7,h1t7,h0t7⟩:=og q_t7
   have q_r7g:=fun D=>(h1t7 D).1
   refine aB I (fun K=>bp Fg (w4 _ (q_r7g K)) ⟨(bI I K),Q⟩)<|d (cb (Y I) (fun D=>(bI I D)) (fun D=>(h1t7 D).2) h0t7)<|gJ I<|bu<|db A hN I ?_;exact aM (aE (ih (i+1) t7 ⟨cW A,h⟩) (be I))

def LM s{R}(h:wq s=some R):cw aH 91 [V aV s] (ia R):=by
 exact cX Tryz.func91 I<|aU<|cY I<|bQ<|bG<|aU<|cN mR I<|eD h Pw (LL _) (dc I) fun r h=>d (iz (Y I))<|aR I<|so h▸aA I I

def L5 q{R}(h:zT q=some R):cw aH 39 [V bH q] (aO R):=by
 refine cX Tryz.func39 I<|aU<|cY I<|bJ<|bG<|aU<|bN pP lO At I<|cu qy I<|d (fz (Y I) hI)<|a8 I<|aB I (dP pP lO I I)<|aB I (du At I I)<|aB I (kV qy I)<|aB I (fun K=>jg (bI I K) hI)<|fF I<|a8 I<|aB I (dP vC nQ I I)<|aB I (du C1 I I)<|aB I (kV xb I)<|aB I (fun K=>jg (bI I K) hI) ?_;refine fF I<|a8 I<|ck h fun t q_t h=>aB I (dP DI s4 I I)<|aB I (du cF I I)<|aB I (lF I)<|aB I (m4 I) ?_
 obtain⟨t1,h1t,h0t⟩:=og q_t
 have q_t1g:=fun D=>(h1t D).1
 refine cn I I I I (fun K=>oo DI s4 I I)<|cn I I I I (fun K=>fS cF I I (bI I K)) ?_
 obtain⟨r,h1t1,h0t1⟩:=I4 q_t1g
 have q_rg:=fun D=>(h1t1 D).1
 refine cn I I I I (fun K=>bp NF (HP _ (q_rg K)) ⟨(bI I K),Q⟩)<|aB I (fun K=>cP (bI I K) (fun D=>(bI I (ku K (lD D)))) (fun D=>(h1t1 (ku K D)).2) (fun D=>h0t1 K D))<|d (cb (Y I) (fun D=>(bI I D)) (fun D=>(h1t D).2) h0t)<|bk I<|aZ<|bN vC nQ C1 I<|cu xb I<|d (bt hI)<|bG<|ai<|aQ (k:=33) I fun hN=>bq ?_;refine aE (ft (aw:=fun ls i ok=>(q.Keys.drop i=ls)/\qc q ls ok=some R) (Of:=fun _ i ok=>[]) (Gf:=fun _ i ok=>[(1,bb bH q),(3,ia ok),(33,fO (gk) q.Keys),(34,jf q.Keys),(35,aO (i:Int))]) (fun i ok h=>?_) (fun e tl ih i ok h=>?_) q.Keys 0 t ⟨I,h⟩) (be I)
 ·obtain⟨A,h⟩:=h
  refine dr A I<|av<|aZ<|a8 I<|d (iz (Y I))<|a8 I<|ck h fun t2 q_t2 h=>aK I (dP pP lO I I)<|aK I (du At I I) ?_
  obtain⟨r1,h1t2,h0t2⟩:=og q_t2
  have q_r1g:=fun D=>(h1t2 D).1
  refine aK I (fun K=>bp Py (LN _ _ (q_r1g K)) ⟨(bI I K),(Lw Px fun x y h=>LM _ h),Q⟩)<|d (cP (Y I) (fun D=>(bI I (lD D))) (fun D=>(h1t2 D).2) h0t2)<|cE h I (fun h=>?_) (fun h=>?_)
  ·exact aU<|ev<|ah<|so h▸aA I I
  ·exact ip<|aU<|ev<|so h▸aA I I
 ·obtain⟨A,h⟩:=h
  refine dq A I<|aF<|ai<|aU<|eM xb wD I (dv A)<|aT wD CS I fun b=>bX wD al I<|aP 5 I<|bG<|aL<|a8 I<|a8 I ?_;refine ck h fun t3 q_t3 h=>aB I (dP yd qY I I)<|aB I (du j5 I I)<|aB I (fun K=>jj (bI I K) hS)<|aB I (m4 I) ?_
  obtain⟨t4,h1t3,h0t3⟩:=og q_t3
  have q_t4g:=fun D=>(h1t3 D).1
  refine cd I I I I (fun K=>oo yc qX I I)<|cd I I I I (fun K=>fS cF I I (bI I K)) ?_
  obtain⟨r2,h1t4,h0t4⟩:=I4 q_t4g
  have q_r2g:=fun D=>(h1t4 D).1
  refine cd I I I I (fun K=>bp NF (HP _ (q_r2g K)) ⟨(bI I K),Q⟩)<|aB I (fun K=>cb (bI I K) (fun D=>(bI I (ku K D))) (fun D=>(h1t4 (ku K D)).2) (fun D=>h0t4 K D))<|aB I (m4 I) ?_
  obtain⟨t5,h1t3⟩:=IB (fun D=>(h1t3 D).2)
  have q_t5g:=fun D=>(h1t3 D).1
  refine cn I I I I (fun K=>oo yd qY I I)<|cn I I I I (fun K=>fS j5 I I (bI I K)) ?_
  obtain⟨r3,h1t5,h0t5⟩:=I4 q_t5g
  have q_r3g:=fun D=>(h1t5 D).1
  refine cn I I I I (fun K=>bp Cn (q0 _ (q_r3g K)) ⟨(bI I K),Q⟩)<|cn I I I I (fun K=>bt (bI I K))<|cd I I I I (fun K=>oo yc qX I I)<|cd I I I I (fun K=>fS cF I I (bI I K))<|cd I I I I (fun K=>mg (bI I K) hI)<|cn I I I I (fun K=>f9 (bI I K) (fun D=>(bI I (ku K D))))<|aB I (fun K=>cP (bI I K) (fun D=>(bI I (ku K (lD D)))) (fun D=>(h1t5 (ku K D)).2) (fun D=>h0t5 K D))<|d (cb (Y I) (fun D=>(bI I D)) (fun D=>(h1t3 D).2) h0t3)<|gJ I<|bu<|db A hN I ?_;exact aM (aE (ih (i+1) t3 ⟨cW A,h⟩) (be I))

def JG c name{R}(h:uK c name=some R):cw aH 173 [V bc c,V rS name] (tT [aO R.1,ia R.2]):=by
 exact cX Tryz.func173 I<|aU<|cY I<|bJ<|bQ<|bG<|aU<|bN iU dw pd I<|a8 I<|eD h KN (E5 _ _ _) ⟨(Y I),(Lw NH fun x y h=>HQ _ h),(Y I),Q⟩ fun r h=>dx I I<|dx I I<|gJ I<|aR I<|so h▸dO I I I

def JF s{R}(h:wm s=some R):cw aH 174 [V eT s] (V rS R):=by
 refine cX Tryz.func174 I<|aU<|cY I<|d (bC hS)<|bG<|aZ<|bN DE qU j5 I<|d (jj (Y I) hS)<|cE h I (fun h=>?_) (fun h=>?_)
 ·exact aU<|bN DF qV j5 I<|aR I<|ah<|so h▸aA I I
 ·exact ip<|aU<|bN DE qU j5 I<|aR I<|so h▸aA I I

set_option maxHeartbeats 4000000 in
def H0(b:Nat)(ix:OI) s p{R}(h:lg s p=some R):dB aH 139 [tV (aj b 0),V eT p] (ci b s ix) (fun _:OI=>aO R.1) (fun j=>ci b R.2 j):=by
 refine dB.of Tryz.func139 I I I fun w0 S0=>?_;refine(show CG _ _ _ [bx (rH aq [(10,M (ix.h 0).1 (ix.h 0).2 s.out.Tables.length),(11,M (ix.h 1).1 (ix.h 1).2 s.out.Joins.length),(16,M (ix.h 2).1 (ix.h 2).2 s.out.Keys.length),(17,M (ix.h 3).1 (ix.h 3).2 s.out.Aggs.length),(18,M (ix.h 4).1 (ix.h 4).2 s.out.Items.length),(22,M (ix.h 5).1 (ix.h 5).2 s.kinds.length),(23,M (ix.h 6).1 (ix.h 6).2 s.groups.length),(19,ak (ix.h 7).2),(20,ak (ix.h 8).2),(21,ak (ix.h 9).2)]) 127 b s,Z aC 3 (ix.h 0).1 (ix.h 0).2 s.out.Tables,Z aD 71 (ix.h 1).1 (ix.h 1).2 s.out.Joins,Z aC 3 (ix.h 2).1 (ix.h 2).2 s.out.Keys,Z aN 73 (ix.h 3).1 (ix.h 3).2 s.out.Aggs,Z aa 62 (ix.h 4).1 (ix.h 4).2 s.out.Items,Z aC 3 (ix.h 5).1 (ix.h 5).2 s.kinds,Z aC 3 (ix.h 6).1 (ix.h 6).2 s.groups,bj ib cR (ix.h 7).2 none (ix.oss 0) s.called,bj dj cR (ix.h 8).2 none (ix.oss 1) s.alone,da (fun y:Int=>aO y) gb (ix.h 9).2 s.behind] _ from ?_);refine aU<|cY I<|bJ<|bG<|aF<|ck h fun r q_r h=>?_
 refine fX (ts:=[_,_,_,_,_,_,_,_,_,_,_,_]) mixed I I
  ⟨iQ I I,
  ⟨gH 12 0 I I (bo (Y I)),
  ⟨gH 13 1 I I (lA 0 A4 I I I),
  ⟨gH 14 2 I I (bm (r:=rH aq [(10,M (ix.h 0).1 (ix.h 0).2 s.out.Tables.length),(11,M (ix.h 1).1 (ix.h 1).2 s.out.Joins.length),(16,M (ix.h 2).1 (ix.h 2).2 s.out.Keys.length),(17,M (ix.h 3).1 (ix.h 3).2 s.out.Aggs.length),(18,M (ix.h 4).1 (ix.h 4).2 s.out.Items.length),(22,M (ix.h 5).1 (ix.h 5).2 s.kinds.length),(23,M (ix.h 6).1 (ix.h 6).2 s.groups.length),(19,ak (ix.h 7).2),(20,ak (ix.h 8).2),(21,ak (ix.h 9).2)]) (x:=s) lB I I (nh s3) (.head _) (Y I)),
  ⟨rp 3 I I (oo DF qV I I),
  ⟨mQ 4 j5 I I,
  ⟨ij 15 3 17 5 I I I (bp N9 (JG _ _ q_r) ⟨(Y I),(Y I),Q⟩),
  ⟨gH 18 6 I I (fh I),
  ⟨gH 11 7 I I (ro I I),
  ⟨gH 11 7 I I (ro I I),
  ⟨gH 19 8 I I (wA I),
  ⟨gH 20 9 I I (wA I),
  Q⟩⟩⟩⟩⟩⟩⟩⟩⟩⟩⟩⟩ ?_
 refine av<|aU<|cN FH I<|eD h N8 (JF _) (dc I) fun r1 h=>bk I<|aF<|ai<|aG I<|d (iz (Y I))<|bk I<|m3 h I (fun h=>?_) (fun h=>?_)
 ·exact aU<|ev<|cz<|so h▸de I ix I I (fun _ _ h=>h)
 ·refine aG I<|d (bo (Y I))<|bz 19 EZ I<|d (kp Ky I (.head _) (Y I))<|a8 I<|d (Dq (γ:=fun y:Bool=>V rB y) (z:=false) Tryz.underlying123 (uo kx) zv4 (fun S=>⟨_,I,(fun _=>I) S⟩) (.tail _ (.tail _ (.tail _ (.tail _ (.tail _ (.tail _ (.tail _ (.tail _ (.head _))))))))) (Y I) (Hu (Y I)))<|bk I<|m3 h I (fun h=>?_) (fun h=>?_)
  ·exact aU<|ev<|cz<|so h▸de I ix I I (fun _ _ h=>h)
  ·refine bA<|bl<|av<|aG I<|d (bo (Y I))<|bz 19 EZ I<|d (kp Ky I (.head _) (Y I))<|a8 I<|Gy<|Kk (γ:=fun y:Bool=>ia y) Tryz.underlying123 (uo kx) (Y I) (Hu (Y I)) hB fun os=>cU<|Ea (r' :=rH aq [(10,M (ix.h 0).1 (ix.h 0).2 s.out.Tables.length),(11,M (ix.h 1).1 (ix.h 1).2 s.out.Joins.length),(16,M (ix.h 2).1 (ix.h 2).2 s.out.Keys.length),(17,M (ix.h 3).1 (ix.h 3).2 s.out.Aggs.length),(18,M (ix.h 4).1 (ix.h 4).2 s.out.Items.length),(22,M (ix.h 5).1 (ix.h 5).2 s.kinds.length),(23,M (ix.h 6).1 (ix.h 6).2 s.groups.length),(19,ak (ix.h 7).2),(20,ak (ix.h 8).2),(21,ak (ix.h 9).2)]) (x' :=({s with called:=(gN s.called r1 true)}:an)) (fun _ _ _ _ h=>h) ?_;refine(show RG _ _ _ _ [_,_,_,_,_,_,_,_,_,_,_] _ from ?_);refine bG<|aG I<|a8 I<|d (bo (Y I))<|bz 10 d8 I<|bz 10 AY I<|d (dA gc I (.head _) (.tail _ (.tail _ (.head _))) (Y I))<|a8 I<|d (aW (r:=aC) (ys:=[r.1]) (xs:=[.tmp 44]) eu cF I I I I I ⟨(Y I),Q⟩)<|gS<|ck h fun l q_l h=>n6 cF I I I I eu I I (Y I) (Y I) q_l fun l1 c=>d (bo (Y I))<|bz 10 d8 I<|bz 10 AY I<|fC (EffOK.fr1 (iV (hs' :=[(10,M l1 c l.length),(11,M (ix.h 1).1 (ix.h 1).2 s.out.Joins.length),(16,M (ix.h 2).1 (ix.h 2).2 s.out.Keys.length),(17,M (ix.h 3).1 (ix.h 3).2 s.out.Aggs.length),(18,M (ix.h 4).1 (ix.h 4).2 s.out.Items.length),(22,M (ix.h 5).1 (ix.h 5).2 s.kinds.length),(23,M (ix.h 6).1 (ix.h 6).2 s.groups.length),(19,ak (ix.h 7).2),(20,ak (ix.h 8).2),(21,ak (ix.h 9).2)]) (u:=M l1 c l.length) gc I I (iv eR hU t8) I ⟨.inl ⟨I,I,I⟩,.inr ⟨I,I⟩,.inr ⟨I,I⟩,.inr ⟨I,I⟩,.inr ⟨I,I⟩,.inr ⟨I,I⟩,.inr ⟨I,I⟩,.inr ⟨I,I⟩,.inr ⟨I,I⟩,.inr ⟨I,I⟩,Q⟩ (Y I) (kS (Y I)) (sQ (Y I)))) fun i=>?_;refine(show RG _ _ _ _ [_,_,_,_,_,_,_,_,_,_,_] _ from ?_);refine ck h fun sc q_sc h=>i6 (O' :=[bx (rH aq [(10,M l1 c sc.out.Tables.length),(11,M (ix.h 1).1 (ix.h 1).2 sc.out.Joins.length),(16,M (ix.h 2).1 (ix.h 2).2 sc.out.Keys.length),(17,M (ix.h 3).1 (ix.h 3).2 sc.out.Aggs.length),(18,M (ix.h 4).1 (ix.h 4).2 sc.out.Items.length),(22,M (ix.h 5).1 (ix.h 5).2 sc.kinds.length),(23,M (ix.h 6).1 (ix.h 6).2 sc.groups.length),(19,ak (ix.h 7).2),(20,ak (ix.h 8).2),(21,ak (ix.h 9).2)]) 127 b sc,Z aC 3 l1 c sc.out.Tables,bj ib cR (ix.h 7).2 none os sc.called,Z aD 71 (ix.h 1).1 (ix.h 1).2 sc.out.Joins,Z aC 3 (ix.h 2).1 (ix.h 2).2 sc.out.Keys,Z aN 73 (ix.h 3).1 (ix.h 3).2 sc.out.Aggs,Z aa 62 (ix.h 4).1 (ix.h 4).2 sc.out.Items,Z aC 3 (ix.h 5).1 (ix.h 5).2 sc.kinds,Z aC 3 (ix.h 6).1 (ix.h 6).2 sc.groups,bj dj cR (ix.h 8).2 none (ix.oss 1) sc.alone,da (fun y:Int=>aO y) gb (ix.h 9).2 sc.behind]) (by cases so q_sc;exact I)<|bG<|aZ<|a8 I<|d (bo (Y I))<|bz 0 A4 I<|bz 0 iU I<|d (bm (r:=rH aq [(10,M l1 c sc.out.Tables.length),(11,M (ix.h 1).1 (ix.h 1).2 sc.out.Joins.length),(16,M (ix.h 2).1 (ix.h 2).2 sc.out.Keys.length),(17,M (ix.h 3).1 (ix.h 3).2 sc.out.Aggs.length),(18,M (ix.h 4).1 (ix.h 4).2 sc.out.Items.length),(22,M (ix.h 5).1 (ix.h 5).2 sc.kinds.length),(23,M (ix.h 6).1 (ix.h 6).2 sc.groups.length),(19,ak (ix.h 7).2),(20,ak (ix.h 8).2),(21,ak (ix.h 9).2)]) (x:=sc) pd I I (nh (ed s3 dw)) (.head _) (Y I))<|a8 I<|ck h fun e q_e h=>nB mj ie I q_e<|bN g9 ew mp I<|cu kQ I<|d (bt hI)<|bG<|ai<|aQ (k:=58) I fun hN=>bq ?_;refine dC<|dC<|vO<|dC<|dC<|dC<|dC<|dC<|dC<|dC<|dC ?_;refine aE (od (aw:=fun ls i1 ob ix1=>(e.Columns.drop i1=ls)/\jE r1 ls ob=some R) (Of:=fun _ i1 ob (ix1:OI)=>[bx (rH aq [(10,M (ix1.h 0).1 (ix1.h 0).2 ob.out.Tables.length),(11,M (ix1.h 1).1 (ix1.h 1).2 ob.out.Joins.length),(16,M (ix1.h 2).1 (ix1.h 2).2 ob.out.Keys.length),(17,M (ix1.h 3).1 (ix1.h 3).2 ob.out.Aggs.length),(18,M (ix1.h 4).1 (ix1.h 4).2 ob.out.Items.length),(22,M (ix1.h 5).1 (ix1.h 5).2 ob.kinds.length),(23,M (ix1.h 6).1 (ix1.h 6).2 ob.groups.length),(19,ak (ix1.h 7).2),(20,ak (ix1.h 8).2),(21,ak (ix1.h 9).2)]) 127 b ob,Z aC 3 (ix1.h 0).1 (ix1.h 0).2 ob.out.Tables,Z aD 71 (ix1.h 1).1 (ix1.h 1).2 ob.out.Joins,Z aC 3 (ix1.h 2).1 (ix1.h 2).2 ob.out.Keys,Z aN 73 (ix1.h 3).1 (ix1.h 3).2 ob.out.Aggs,Z aa 62 (ix1.h 4).1 (ix1.h 4).2 ob.out.Items,Z aC 3 (ix1.h 5).1 (ix1.h 5).2 ob.kinds,Z aC 3 (ix1.h 6).1 (ix1.h 6).2 ob.groups,bj ib cR (ix1.h 7).2 none (ix1.oss 0) ob.called,bj dj cR (ix1.h 8).2 none (ix1.oss 1) ob.alone,da (fun y:Int=>aO y) gb (ix1.h 9).2 ob.behind]) (Gf:=fun _ i1 ob ix1=>[(0,tV (aj b 0)),(7,V rS r1),(58,fO (bO) e.Columns),(59,jf e.Columns),(60,aO (i1:Int))]) (fun i1 ob ix1 h=>?_) (fun e1 tl ih i1 ob ix1 h=>?_) e.Columns 0 sc (I3 [(l1,c),((ix.h 1).1,(ix.h 1).2),((ix.h 2).1,(ix.h 2).2),((ix.h 3).1,(ix.h 3).2),((ix.h 4).1,(ix.h 4).2),((ix.h 5).1,(ix.h 5).2),((ix.h 6).1,(ix.h 6).2),(none,(ix.h 7).2),(none,(ix.h 8).2),(none,(ix.h 9).2)] [os,(ix.oss 1),[]]) ⟨I,h⟩) (be I)
   ·obtain⟨A,h⟩:=h
    exact dr A I<|av<|aU<|ev<|so h▸de I ix1 I I (fun _ _ h=>h)
   ·obtain⟨A,h⟩:=h
    refine dq A I<|aF<|ai<|aU<|eM kQ fG I (dv A)<|aT fG i7 I fun b1=>bX fG al I<|aP 9 I<|bG<|aG I ?_;refine d (bo (Y I))<|bz 22 oL I<|d (dA gc I (.head _) (.tail _ (.tail _ (.tail _ (.tail _ (.tail _ (.tail _ (.head _))))))) (Y I))<|d (fJ eu (kS (Y I)))<|bk I<|aF<|ck h fun l9 q_l9 h=>?_
    refine eh 16 [tc (tV (aj b 0)),tc (tV (aj b 0)),tc (tV (aj b 20)),tc (tV (ak (ix1.h 8).2)),tc (bb rS e1.Name),tc (V rS e1.Name),tc (tV (aj b 0)),tc (tV (aj b 0)),tc (tV (aj b 20)),tc (tV (ak (ix1.h 8).2)),tc (bb rS e1.Name),tc (V rS e1.Name),([12],fun s=>tO aC ((s.getD 0 kT).h 0).1 ((s.getD 0 kT).h 0).2 ((gK ob.alone e1.Name).getD [])),tc (jf ob.kinds),tc (lE ([(ob.kinds.length:Int)])),([15],fun s=>tO aC ((s.getD 0 kT).h 0).1 ((s.getD 0 kT).h 0).2 l9)] [false,false,false,false,false,false,false,false,false,false,false,false,true,false,false,true] [fun _=>[bx (rH aq [(10,M (ix1.h 0).1 (ix1.h 0).2 ob.out.Tables.length),(11,M (ix1.h 1).1 (ix1.h 1).2 ob.out.Joins.length),(16,M (ix1.h 2).1 (ix1.h 2).2 ob.out.Keys.length),(17,M (ix1.h 3).1 (ix1.h 3).2 ob.out.Aggs.length),(18,M (ix1.h 4).1 (ix1.h 4).2 ob.out.Items.length),(22,M (ix1.h 5).1 (ix1.h 5).2 ob.kinds.length),(23,M (ix1.h 6).1 (ix1.h 6).2 ob.groups.length),(19,ak (ix1.h 7).2),(20,ak (ix1.h 8).2),(21,ak (ix1.h 9).2)]) 127 b ob,Z aC 3 (ix1.h 0).1 (ix1.h 0).2 ob.out.Tables,Z aD 71 (ix1.h 1).1 (ix1.h 1).2 ob.out.Joins,Z aC 3 (ix1.h 2).1 (ix1.h 2).2 ob.out.Keys,Z aN 73 (ix1.h 3).1 (ix1.h 3).2 ob.out.Aggs,Z aa 62 (ix1.h 4).1 (ix1.h 4).2 ob.out.Items,Z aC 3 (ix1.h 5).1 (ix1.h 5).2 ob.kinds,Z aC 3 (ix1.h 6).1 (ix1.h 6).2 ob.groups,bj ib cR (ix1.h 7).2 none (ix1.oss 0) ob.called,bj dj cR (ix1.h 8).2 none (ix1.oss 1) ob.alone,da (fun y:Int=>aO y) gb (ix1.h 9).2 ob.behind],fun sg=>[Z aC 3 ((sg 12).h 0).1 ((sg 12).h 0).2 ((gK ob.alone e1.Name).getD []),bj dj cR (ix1.h 8).2 (some e1.Name) (sg 12).os ob.alone,bx (rH aq [(10,M (ix1.h 0).1 (ix1.h 0).2 ob.out.Tables.length),(11,M (ix1.h 1).1 (ix1.h 1).2 ob.out.Joins.length),(16,M (ix1.h 2).1 (ix1.h 2).2 ob.out.Keys.length),(17,M (ix1.h 3).1 (ix1.h 3).2 ob.out.Aggs.length),(18,M (ix1.h 4).1 (ix1.h 4).2 ob.out.Items.length),(22,M (ix1.h 5).1 (ix1.h 5).2 ob.kinds.length),(23,M (ix1.h 6).1 (ix1.h 6).2 ob.groups.length),(19,ak (ix1.h 7).2),(20,ak (ix1.h 8).2),(21,ak (ix1.h 9).2)]) 127 b ob,Z aC 3 (ix1.h 0).1 (ix1.h 0).2 ob.out.Tables,Z aD 71 (ix1.h 1).1 (ix1.h 1).2 ob.out.Joins,Z aC 3 (ix1.h 2).1 (ix1.h 2).2 ob.out.Keys,Z aN 73 (ix1.h 3).1 (ix1.h 3).2 ob.out.Aggs,Z aa 62 (ix1.h 4).1 (ix1.h 4).2 ob.out.Items,Z aC 3 (ix1.h 5).1 (ix1.h 5).2 ob.kinds,Z aC 3 (ix1.h 6).1 (ix1.h 6).2 ob.groups,bj ib cR (ix1.h 7).2 none (ix1.oss 0) ob.called,da (fun y:Int=>aO y) gb (ix1.h 9).2 ob.behind],fun sg=>[Z aC 3 ((sg 15).h 0).1 ((sg 15).h 0).2 l9,bj dj cR (ix1.h 8).2 (some e1.Name) (sg 12).os ob.alone,bx (rH aq [(10,M (ix1.h 0).1 (ix1.h 0).2 ob.out.Tables.length),(11,M (ix1.h 1).1 (ix1.h 1).2 ob.out.Joins.length),(16,M (ix1.h 2).1 (ix1.h 2).2 ob.out.Keys.length),(17,M (ix1.h 3).1 (ix1.h 3).2 ob.out.Aggs.length),(18,M (ix1.h 4).1 (ix1.h 4).2 ob.out.Items.length),(22,M (ix1.h 5).1 (ix1.h 5).2 ob.kinds.length),(23,M (ix1.h 6).1 (ix1.h 6).2 ob.groups.length),(19,ak (ix1.h 7).2),(20,ak (ix1.h 8).2),(21,ak (ix1.h 9).2)]) 127 b ob,Z aC 3 (ix1.h 0).1 (ix1.h 0).2 ob.out.Tables,Z aD 71 (ix1.h 1).1 (ix1.h 1).2 ob.out.Joins,Z aC 3 (ix1.h 2).1 (ix1.h 2).2 ob.out.Keys,Z aN 73 (ix1.h 3).1 (ix1.h 3).2 ob.out.Aggs,Z aa 62 (ix1.h 4).1 (ix1.h 4).2 ob.out.Items,Z aC 3 (ix1.h 5).1 (ix1.h 5).2 ob.kinds,Z aC 3 (ix1.h 6).1 (ix1.h 6).2 ob.groups,bj ib cR (ix1.h 7).2 none (ix1.oss 0) ob.called,da (fun y:Int=>aO y) gb (ix1.h 9).2 ob.behind]] I mixed I I I I I
     ⟨⟨[⟨0,fun _=>tV (aj b 0),none⟩],_,0,2,I,⟨(fun _=>I),Q⟩,I,I,I,I,I,fun _ sg _ _=>h2 I (fh I)⟩,
     ⟨⟨[⟨69,fun _=>tV (aj b 0),some 0⟩],_,0,2,I,⟨(fun _=>I),Q⟩,I,I,I,I,I,fun _ sg _ _=>h2 I (bo (Y I))⟩,
     ⟨⟨[⟨70,fun _=>tV (aj b 0),some 1⟩],_,0,2,I,⟨(fun _=>I),Q⟩,I,I,I,I,I,fun _ sg _ _=>h2 I (lA 20 A3 I I I)⟩,
     ⟨⟨[⟨71,fun _=>tV (aj b 20),some 2⟩],_,0,2,I,⟨(fun _=>I),Q⟩,I,I,I,I,I,nA (fun sg=>h2 I (kp BE I (.head _) (Y I))) (nA (fun sg=>h2 I (kp BE I (.tail _ (.tail _ (.head _))) (Y I))) (d6 (fun sg=>h2 I (kp BE I (.tail _ (.tail _ (.head _))) (Y I)))))⟩,
     ⟨⟨[⟨9,fun _=>bb bO e1,none⟩],_,0,2,I,⟨(fun _=>I),Q⟩,I,I,I,I,I,fun _ sg _ _=>h2 I (oo oM iP I I)⟩,
     ⟨⟨[⟨73,fun _=>bb rS e1.Name,some 4⟩],_,0,2,I,⟨(fun _=>I),Q⟩,I,I,I,I,I,fun _ sg _ _=>h2 I (o9 j5 I I)⟩,
     ⟨⟨[⟨0,fun _=>tV (aj b 0),none⟩],_,0,0,I,⟨(fun _=>I),Q⟩,I,I,I,I,I,fun _ sg _ _=>h2 I (fh I)⟩,
     ⟨⟨[⟨75,fun _=>tV (aj b 0),some 6⟩],_,0,0,I,⟨(fun _=>I),Q⟩,I,I,I,I,I,fun _ sg _ _=>h2 I (bo (Y I))⟩,
     ⟨⟨[⟨76,fun _=>tV (aj b 0),some 7⟩],_,0,0,I,⟨(fun _=>I),Q⟩,I,I,I,I,I,fun _ sg _ _=>h2 I (lA 20 A3 I I I)⟩,
     ⟨⟨[⟨77,fun _=>tV (aj b 20),some 8⟩],_,0,0,I,⟨(fun _=>I),Q⟩,I,I,I,I,I,d6 (fun sg=>h2 I (kp BE I (.head _) (Y I)))⟩,
     ⟨⟨[⟨9,fun _=>bb bO e1,none⟩],_,0,0,I,⟨(fun _=>I),Q⟩,I,I,I,I,I,fun _ sg _ _=>h2 I (oo oM iP I I)⟩,
     ⟨⟨[⟨79,fun _=>bb rS e1.Name,some 10⟩],_,0,0,I,⟨(fun _=>I),Q⟩,I,I,I,I,I,fun _ sg _ _=>h2 I (o9 j5 I I)⟩,
     ⟨⟨[⟨78,fun _=>tV (ak (ix1.h 8).2),some 9⟩,⟨80,fun _=>V rS e1.Name,some 11⟩],_,I,⟨(fun _=>I),(fun _=>I),Q⟩,I,I,I,fun sg=>bB I (EffOK.fr9 (Gj Tryz.underlying124 (uo kx) Mw (Y I) (Hu (Y I))))⟩,
     ⟨⟨[⟨10,fun _=>V aC (ob.kinds.length:Int),none⟩],_,0,1,I,⟨(fun _=>I),Q⟩,I,I,I,I,I,fun _ sg _ _=>h2 I (fh I)⟩,
     ⟨⟨[⟨82,fun _=>V aC (ob.kinds.length:Int),some 13⟩],_,0,1,I,⟨(fun _=>I),Q⟩,I,I,I,I,I,fun _ sg _ _=>h2 I (aW (r:=aC) (ys:=[(ob.kinds.length:Int)]) (xs:=[.tmp 82]) eu cF I I I I I ⟨(Y I),Q⟩)⟩,
     ⟨⟨[⟨81,fun sg=>tO aC ((sg 12).h 0).1 ((sg 12).h 0).2 ((gK ob.alone e1.Name).getD []),some 12⟩,⟨83,fun _=>V wy ([(ob.kinds.length:Int)]),some 14⟩],_,I,⟨(fun _=>I),(fun _=>I),Q⟩,I,I,I,fun sg=>bB I (hE cF I I I I eu I (Y I) (Y I) q_l9)⟩,
     Q⟩⟩⟩⟩⟩⟩⟩⟩⟩⟩⟩⟩⟩⟩⟩⟩ (fun sg=>?_)
    refine(show RG _ _ _ _ [_,_,_,_,_,_,_,_,_,_,_,_] _ from ?_);refine cU<|cU<|Kl Tryz.underlying124 (uo kx) (Y I) (Hu (Y I)) (Y I) fun os1=>cU<|Ea (r' :=rH aq [(10,M (ix1.h 0).1 (ix1.h 0).2 ob.out.Tables.length),(11,M (ix1.h 1).1 (ix1.h 1).2 ob.out.Joins.length),(16,M (ix1.h 2).1 (ix1.h 2).2 ob.out.Keys.length),(17,M (ix1.h 3).1 (ix1.h 3).2 ob.out.Aggs.length),(18,M (ix1.h 4).1 (ix1.h 4).2 ob.out.Items.length),(22,M (ix1.h 5).1 (ix1.h 5).2 ob.kinds.length),(23,M (ix1.h 6).1 (ix1.h 6).2 ob.groups.length),(19,ak (ix1.h 7).2),(20,ak (ix1.h 8).2),(21,ak (ix1.h 9).2)]) (x' :=({ob with alone:=(gN ob.alone e1.Name l9)}:an)) (fun _ _ _ _ h=>h) ?_;refine(show RG _ _ _ _ [_,_,_,_,_,_,_,_,_,_,_] _ from ?_);refine bG<|aF ?_
    refine rl 9 (ts:=[tV (aj b 0),tV (aj b 0),tV (aj b 21),tV (ak (ix1.h 9).2),V rS r1,bb rS e1.Name,V rS e1.Name,V dS (⟨r1,e1.Name⟩:iK),jf ob.kinds]) mixed I I I
     ⟨iQ I I,
     ⟨gH 85 0 I I (bo (Y I)),
     ⟨gH 86 1 I I (lA 21 EY I I I),
     ⟨gH 87 2 I I (kp Kx I (.head _) (Y I)),
     ⟨iQ I I,
     ⟨rp 9 I I (oo oM iP I I),
     ⟨mQ 5 j5 I I,
     ⟨ij 89 4 91 6 I I I (bV (y:=(⟨r1,e1.Name⟩:iK)) u0 Nf wR (⟨_,_,_,_,_,I,ze,I,(Y I),⟨_,_,_,_,_,I,zd,I,(Y I),I⟩⟩)),
     ⟨iQ I I,
     Q⟩⟩⟩⟩⟩⟩⟩⟩⟩ ?_
    refine D9<|Km (γ:=fun y:Int=>aO y) Tryz.underlying125 M6 (Y I) (Hv (p:=((⟨r1,e1.Name⟩:iK).Table,(⟨r1,e1.Name⟩:iK).Name)) I (fun _ _ h=>M7 h) (Y I)) (Y I)<|cU<|Ea (r' :=rH aq [(10,M (ix1.h 0).1 (ix1.h 0).2 ob.out.Tables.length),(11,M (ix1.h 1).1 (ix1.h 1).2 ob.out.Joins.length),(16,M (ix1.h 2).1 (ix1.h 2).2 ob.out.Keys.length),(17,M (ix1.h 3).1 (ix1.h 3).2 ob.out.Aggs.length),(18,M (ix1.h 4).1 (ix1.h 4).2 ob.out.Items.length),(22,M (ix1.h 5).1 (ix1.h 5).2 ob.kinds.length),(23,M (ix1.h 6).1 (ix1.h 6).2 ob.groups.length),(19,ak (ix1.h 7).2),(20,ak (ix1.h 8).2),(21,ak (ix1.h 9).2)]) (x' :=({({ob with alone:=(gN ob.alone e1.Name l9)}:an)with behind:=(gN ob.behind ((⟨r1,e1.Name⟩:iK).Table,(⟨r1,e1.Name⟩:iK).Name) (ob.kinds.length:Int))}:an)) (fun _ _ _ _ h=>h) ?_;refine(show RG _ _ _ _ [_,_,_,_,_,_,_,_,_,_,_] _ from ?_);refine ck h fun sc1 q_sc1 h=>i6 (O' :=[bx (rH aq [(10,M (ix1.h 0).1 (ix1.h 0).2 sc1.out.Tables.length),(11,M (ix1.h 1).1 (ix1.h 1).2 sc1.out.Joins.length),(16,M (ix1.h 2).1 (ix1.h 2).2 sc1.out.Keys.length),(17,M (ix1.h 3).1 (ix1.h 3).2 sc1.out.Aggs.length),(18,M (ix1.h 4).1 (ix1.h 4).2 sc1.out.Items.length),(22,M (ix1.h 5).1 (ix1.h 5).2 sc1.kinds.length),(23,M (ix1.h 6).1 (ix1.h 6).2 sc1.groups.length),(19,ak (ix1.h 7).2),(20,ak (ix1.h 8).2),(21,ak (ix1.h 9).2)]) 127 b sc1,da (fun y:Int=>aO y) gb (ix1.h 9).2 sc1.behind,bj dj cR (ix1.h 8).2 none os1 sc1.alone,Z aC 3 (ix1.h 0).1 (ix1.h 0).2 sc1.out.Tables,Z aD 71 (ix1.h 1).1 (ix1.h 1).2 sc1.out.Joins,Z aC 3 (ix1.h 2).1 (ix1.h 2).2 sc1.out.Keys,Z aN 73 (ix1.h 3).1 (ix1.h 3).2 sc1.out.Aggs,Z aa 62 (ix1.h 4).1 (ix1.h 4).2 sc1.out.Items,Z aC 3 (ix1.h 5).1 (ix1.h 5).2 sc1.kinds,Z aC 3 (ix1.h 6).1 (ix1.h 6).2 sc1.groups,bj ib cR (ix1.h 7).2 none (ix1.oss 0) sc1.called]) (by cases so q_sc1;exact I)<|bG<|ck h fun l10 q_l10 h=>?_
    refine eh 9 [tc (tV (aj b 0)),tc (tV (aj b 0)),tc (tV (aj b 0)),tc (tV (aj b 22)),tc (tO aC (ix1.h 5).1 (ix1.h 5).2 sc1.kinds),tc (bb aC e1.Kind),tc (aO e1.Kind),tc (lE ([e1.Kind])),([8],fun s=>tO aC ((s.getD 0 kT).h 0).1 ((s.getD 0 kT).h 0).2 l10)] [false,false,false,false,false,false,false,false,true] [fun _=>[bx (rH aq [(10,M (ix1.h 0).1 (ix1.h 0).2 sc1.out.Tables.length),(11,M (ix1.h 1).1 (ix1.h 1).2 sc1.out.Joins.length),(16,M (ix1.h 2).1 (ix1.h 2).2 sc1.out.Keys.length),(17,M (ix1.h 3).1 (ix1.h 3).2 sc1.out.Aggs.length),(18,M (ix1.h 4).1 (ix1.h 4).2 sc1.out.Items.length),(22,M (ix1.h 5).1 (ix1.h 5).2 sc1.kinds.length),(23,M (ix1.h 6).1 (ix1.h 6).2 sc1.groups.length),(19,ak (ix1.h 7).2),(20,ak (ix1.h 8).2),(21,ak (ix1.h 9).2)]) 127 b sc1,da (fun y:Int=>aO y) gb (ix1.h 9).2 sc1.behind,bj dj cR (ix1.h 8).2 none os1 sc1.alone,Z aC 3 (ix1.h 0).1 (ix1.h 0).2 sc1.out.Tables,Z aD 71 (ix1.h 1).1 (ix1.h 1).2 sc1.out.Joins,Z aC 3 (ix1.h 2).1 (ix1.h 2).2 sc1.out.Keys,Z aN 73 (ix1.h 3).1 (ix1.h 3).2 sc1.out.Aggs,Z aa 62 (ix1.h 4).1 (ix1.h 4).2 sc1.out.Items,Z aC 3 (ix1.h 5).1 (ix1.h 5).2 sc1.kinds,Z aC 3 (ix1.h 6).1 (ix1.h 6).2 sc1.groups,bj ib cR (ix1.h 7).2 none (ix1.oss 0) sc1.called],fun sg1=>[Z aC 3 ((sg1 8).h 0).1 ((sg1 8).h 0).2 l10,bx (rH aq [(10,M (ix1.h 0).1 (ix1.h 0).2 sc1.out.Tables.length),(11,M (ix1.h 1).1 (ix1.h 1).2 sc1.out.Joins.length),(16,M (ix1.h 2).1 (ix1.h 2).2 sc1.out.Keys.length),(17,M (ix1.h 3).1 (ix1.h 3).2 sc1.out.Aggs.length),(18,M (ix1.h 4).1 (ix1.h 4).2 sc1.out.Items.length),(22,M (ix1.h 5).1 (ix1.h 5).2 sc1.kinds.length),(23,M (ix1.h 6).1 (ix1.h 6).2 sc1.groups.length),(19,ak (ix1.h 7).2),(20,ak (ix1.h 8).2),(21,ak (ix1.h 9).2)]) 127 b sc1,da (fun y:Int=>aO y) gb (ix1.h 9).2 sc1.behind,bj dj cR (ix1.h 8).2 none os1 sc1.alone,Z aC 3 (ix1.h 0).1 (ix1.h 0).2 sc1.out.Tables,Z aD 71 (ix1.h 1).1 (ix1.h 1).2 sc1.out.Joins,Z aC 3 (ix1.h 2).1 (ix1.h 2).2 sc1.out.Keys,Z aN 73 (ix1.h 3).1 (ix1.h 3).2 sc1.out.Aggs,Z aa 62 (ix1.h 4).1 (ix1.h 4).2 sc1.out.Items,Z aC 3 (ix1.h 6).1 (ix1.h 6).2 sc1.groups,bj ib cR (ix1.h 7).2 none (ix1.oss 0) sc1.called]] I mixed I I I I I
     ⟨⟨[⟨0,fun _=>tV (aj b 0),none⟩],_,0,1,I,⟨(fun _=>I),Q⟩,I,I,I,I,I,fun _ sg1 _ _=>h2 I (fh I)⟩,
     ⟨⟨[⟨0,fun _=>tV (aj b 0),none⟩],_,0,0,I,⟨(fun _=>I),Q⟩,I,I,I,I,I,fun _ sg1 _ _=>h2 I (fh I)⟩,
     ⟨⟨[⟨95,fun _=>tV (aj b 0),some 1⟩],_,0,0,I,⟨(fun _=>I),Q⟩,I,I,I,I,I,fun _ sg1 _ _=>h2 I (bo (Y I))⟩,
     ⟨⟨[⟨96,fun _=>tV (aj b 0),some 2⟩],_,0,0,I,⟨(fun _=>I),Q⟩,I,I,I,I,I,fun _ sg1 _ _=>h2 I (lA 22 oL I I I)⟩,
     ⟨⟨[⟨97,fun _=>tV (aj b 22),some 3⟩],_,0,0,I,⟨(fun _=>I),Q⟩,I,I,I,I,I,d6 (fun sg1=>h2 I (dA gc I (.head _) (.tail _ (.tail _ (.tail _ (.tail _ (.tail _ (.tail _ (.tail _ (.tail _ (.head _))))))))) (Y I)))⟩,
     ⟨⟨[⟨9,fun _=>bb bO e1,none⟩],_,0,0,I,⟨(fun _=>I),Q⟩,I,I,I,I,I,fun _ sg1 _ _=>h2 I (oo uz mC I I)⟩,
     ⟨⟨[⟨99,fun _=>bb aC e1.Kind,some 5⟩],_,0,0,I,⟨(fun _=>I),Q⟩,I,I,I,I,I,fun _ sg1 _ _=>h2 I (o9 cF I I)⟩,
     ⟨⟨[⟨100,fun _=>V aC e1.Kind,some 6⟩],_,0,0,I,⟨(fun _=>I),Q⟩,I,I,I,I,I,fun _ sg1 _ _=>h2 I (aW (r:=aC) (ys:=[e1.Kind]) (xs:=[.tmp 100]) eu cF I I I I I ⟨(Y I),Q⟩)⟩,
     ⟨⟨[⟨98,fun _=>tO aC (ix1.h 5).1 (ix1.h 5).2 sc1.kinds,some 4⟩,⟨101,fun _=>V wy ([e1.Kind]),some 7⟩],_,I,⟨(fun _=>I),(fun _=>I),Q⟩,I,I,I,fun sg1=>bB I (EffOK.fr8 (hE cF I I I I eu I (Y I) (Y I) q_l10))⟩,
     Q⟩⟩⟩⟩⟩⟩⟩⟩⟩ (fun sg1=>?_)
    refine(show RG _ _ _ _ [_,_,_,_,_,_,_,_,_,_,_] _ from ?_);refine d (bo (Y I))<|bz 22 oL I<|fC (EffOK.fr1 (iV (hs' :=[(10,M (ix1.h 0).1 (ix1.h 0).2 sc1.out.Tables.length),(11,M (ix1.h 1).1 (ix1.h 1).2 sc1.out.Joins.length),(16,M (ix1.h 2).1 (ix1.h 2).2 sc1.out.Keys.length),(17,M (ix1.h 3).1 (ix1.h 3).2 sc1.out.Aggs.length),(18,M (ix1.h 4).1 (ix1.h 4).2 sc1.out.Items.length),(22,M ((sg1 8).h 0).1 ((sg1 8).h 0).2 l10.length),(23,M (ix1.h 6).1 (ix1.h 6).2 sc1.groups.length),(19,ak (ix1.h 7).2),(20,ak (ix1.h 8).2),(21,ak (ix1.h 9).2)]) (u:=M ((sg1 8).h 0).1 ((sg1 8).h 0).2 l10.length) gc I I C6 I ⟨.inr ⟨I,I⟩,.inr ⟨I,I⟩,.inr ⟨I,I⟩,.inr ⟨I,I⟩,.inr ⟨I,I⟩,.inl ⟨I,I,I⟩,.inr ⟨I,I⟩,.inr ⟨I,I⟩,.inr ⟨I,I⟩,.inr ⟨I,I⟩,Q⟩ (Y I) (kS (Y I)) (sQ (Y I)))) fun i2=>?_;refine(show RG _ _ _ _ [_,_,_,_,_,_,_,_,_,_,_] _ from ?_);refine bu<|db A hN I<|fY<|kO<|ae<|ae<|dI<|ae<|ae<|ae<|ae<|ae<|ae ?_;exact aM (aE (ih (i1+1) ({sc1 with kinds:=l10}:an) (I3 [((ix1.h 0).1,(ix1.h 0).2),((ix1.h 1).1,(ix1.h 1).2),((ix1.h 2).1,(ix1.h 2).2),((ix1.h 3).1,(ix1.h 3).2),((ix1.h 4).1,(ix1.h 4).2),(((sg1 8).h 0).1,((sg1 8).h 0).2),((ix1.h 6).1,(ix1.h 6).2),(none,(ix1.h 7).2),(none,(ix1.h 8).2),(none,(ix1.h 9).2)] [(ix1.oss 0),os1,[]]) ⟨cW A,h⟩) (be I))

end Go.Proofs.YthbdkceckjihgaaGreatDoor

