/- cm of this claim: P2. -/
import Derived.Test.YthbdkceckjihgaaGreatDoorBdT
import Derived.Test.YthbdkceckjihgaaGreatDoorBdP1
set_option linter.all false
namespace Go.Proofs.YthbdkceckjihgaaGreatDoor
open Go
abbrev z10(i:OI)(s:ac):=[(10,Y (i.h 0).1 (i.h 0).2 s.out.Tables.length),(11,Y (i.h 1).1 (i.h 1).2 s.out.Joins.length),(16,Y (i.h 2).1 (i.h 2).2 s.out.Keys.length),(17,Y (i.h 3).1 (i.h 3).2 s.out.Aggs.length),(18,Y (i.h 4).1 (i.h 4).2 s.out.Items.length),(22,Y (i.h 5).1 (i.h 5).2 s.kinds.length),(23,Y (i.h 6).1 (i.h 6).2 s.groups.length),(19,am (i.h 7).2),(20,am (i.h 8).2),(21,am (i.h 9).2)]
set_option maxRecDepth 100000

def Rx t{R}(h:pg t=some R):de aQ 172 [K bt t] (aW R):=by
 refine ec Tryz.func172 I<|bl<|d6 I<|cv<|bX<|bv<|dk lr I<|f9 h V3 (Rm _) (dU I) fun r h=>bo I<|dE I I<|dE I I<|j3 I<|bw I<|aI I<|af (mT (M I)) ?_;refine dl h I (fun h=>?_) (fun h=>?_)
 ·exact bl<|fN<|ai<|so h▸aL I I
 ·exact lW<|bl<|fN<|so h▸aL I I

def Ry t{R}(h:rO t=some R):de aQ 171 [K bt t] (lx R):=by
 exact ec Tryz.func171 I<|bl<|d6 I<|cS<|bX<|bl<|dk lr I<|f9 h Wf (Rx _) (dU I) fun r h=>iY I<|a8 I<|so h▸aL I I

def Gs l{R}(h:qn l=some R):de aQ 137 [hM (bt) l] (lx R):=by
 exact ec Tryz.func137 I<|bl<|cS<|bX<|aI I<|f9 h Wh (Rz _ _) ⟨(M I),(TD Wg fun x y h=>Ry _ h),J⟩ fun r h=>af (mT (M I))<|a8 I<|so h▸aL I I

def TU s{R}(h:rP s=some R):de aQ 92 [K bb s] (lx R):=by
 refine ec Tryz.func92 I<|bl<|d6 I<|cS<|bX<|bv<|bW Gh rA KP I<|bW sj mp DY I<|cR sU I<|gv I<|af (QI Sg (M I) (M I))<|bo I<|aM I (dF sj mp I I)<|aM I (di DY I I)<|aM I (lZ sU I)<|aM I (fun hg=>jA (cC I hg) hI)<|kf I<|bo I ?_;refine aM I (dF xo pw I I)<|aM I (di G9 I I)<|aM I (lZ zi I)<|aM I (fun hg=>jA (cC I hg) hI)<|kf I<|bo I<|aM I (dF Ab mo I I)<|aM I (di G8 I I)<|aM I (lZ BN I)<|aM I (fun hg=>jA (cC I hg) hI)<|kf I<|dl h I (fun h=>?_) (fun h=>?_)
 ·exact bl<|cS<|fR<|ai<|so h▸aL I I
 ·refine lW<|bl<|bW Pc AQ Mg I<|f9 h SI (Lx _) (dU I) fun r h=>bw I<|bv<|bW sj mp DY I<|cR sU I<|af (bL hI)<|bX<|aq<|aY (k:=41) I fun hN=>bO ?_;refine aO (jc (aA:=fun ls i ok=>(s.Items.drop i=ls)/\kM s ls ok=some R) (Of:=fun _ i ok=>[]) (Gf:=fun _ i ok=>[(1,aU bb s),(3,lx ok),(41,hM (dC) s.Items),(42,kO s.Items),(43,aW (i:Int))]) (fun i ok h=>?_) (fun e tl ih i ok h=>?_) s.Items 0 r ⟨I,h⟩) (bu I)
  ·obtain⟨D,h⟩:=h
   refine ea D I<|aJ<|bv<|bW xo pw G9 I<|cR zi I<|af (bL hI)<|bX<|aq<|aY (k:=61) I fun hN1=>?_;refine bO ?_;refine aO (jc (aA:=fun ls1 i1 ok1=>(s.Joins.drop i1=ls1)/\kL s ls1 ok1=some R) (Of:=fun _ i1 ok1=>[]) (Gf:=fun _ i1 ok1=>[(1,aU bb s),(3,lx ok1),(61,hM (eZ) s.Joins),(62,kO s.Joins),(63,aW (i1:Int))]) (fun i1 ok1 h=>?_) (fun e1 tl1 ih1 i1 ok1 h=>?_) s.Joins 0 ok ⟨I,h⟩) (bu I)
   ·obtain⟨hx1,h⟩:=h
    refine ea hx1 I<|aJ<|bv<|bW Ab mo G8 I<|cR BN I<|af (bL hI)<|bX<|aq<|aY (k:=81) I fun hN2=>?_;refine bO ?_;refine aO (jc (aA:=fun ls2 i2 ok2=>(s.Group.drop i2=ls2)/\kK s ls2 ok2=some R) (Of:=fun _ i2 ok2=>[]) (Gf:=fun _ i2 ok2=>[(1,aU bb s),(3,lx ok2),(81,hM (eH) s.Group),(82,kO s.Group),(83,aW (i2:Int))]) (fun i2 ok2 h=>?_) (fun e2 tl2 ih2 i2 ok2 h=>?_) s.Group 0 ok1 ⟨I,h⟩) (bu I)
    ·obtain⟨hx2,h⟩:=h
     refine ea hx2 I<|aJ<|bv<|bW C9 uX lr I<|bW Ac rz lr I<|af (qj (r:=bt) (ys:=[s.Where,s.Having]) (xs:=[.tmp 100,.tmp 102]) Tryz.underlying209 lr I U6 I I ⟨(M I),(M I),J⟩)<|af (bL hI)<|bX ?_;refine aq<|bO ?_;refine aO (LT (aA:=fun k i3 ok3=>(2-i3=k)/\mA s k i3 ok3=some R) (Of:=fun _ i3 ok3=>[]) (Gf:=fun _ i3 ok3=>[(3,lx ok3),(103,K (n8 bt 2) ([s.Where,s.Having])),(104,aW (i3:Int))]) (fun i3 ok3 h=>?_) (fun k1 ih3 i3 ok3 h=>?_) 2 0 ok2 ⟨I,h⟩) (bu I)
     ·obtain⟨hx3,h⟩:=h
      exact gJ<|bl<|af (ir (M I) hI)<|bX<|aN<|pE (M I) (OM hx3)<|gL<|aH<|aH<|dP<|aJ<|aI I<|a8 I<|so h▸aL I I
     ·obtain⟨hx3,h⟩:=h
      refine gJ<|bl<|af (ir (M I) hI)<|bX<|aN<|pD (M I) (OL hx3)<|lW<|aN<|aq<|bl<|cL h fun e4 q_e4 h=>af (vH Tryz.underlying209 lr I I (M I) (M I) q_e4)<|aV lr pU I fun b=>cn lr al I<|aS 11 I<|bX<|bd<|bo I<|bo I ?_;refine cL h fun t q_t h=>aG I (dF oS kB I I)<|aG I (di zt I I)<|aG I (lZ sr I)<|aG I (nD I)<|aG I (sy I) ?_
      obtain⟨t1,h1t,h0t⟩:=og q_t
      have q_t1g:=fun H=>(h1t H).1
      refine fT I I I I (fun hg=>sX lr I I)<|fT I I I I (fun hg=>aZ (r:=bt) (ys:=[e4]) (xs:=[.tmp 114]) GU lr I I I I I ⟨(cC I hg),J⟩) ?_
      obtain⟨r1,h1t1,h0t1⟩:=Vf q_t1g
      have q_r1g:=fun H=>(h1t1 H).1
      refine fT I I I I (fun hg=>bN PG (Gs _ (q_r1g hg)) ⟨(cC I hg),J⟩)<|aG I (fun hg=>ef (cC I hg) (fun H=>(cC I (tP hg (rd H)))) (fun H=>(h1t1 (tP hg H)).2) (fun H=>h0t1 hg H))<|af (cU (M I) (fun H=>(cC I H)) (fun H=>(h1t H).2) h0t)<|j3 I<|bR<|ca<|aJ<|bd<|af (ta (ML hx3 (by decide)) (M I) hI)<|bo I<|bR ?_;exact bf (aO (ih3 (i3+1) t ⟨MK hx3,h⟩) (bu I))
    ·obtain⟨hx2,h⟩:=h
     refine d9 hx2 I<|aN<|aq<|bl<|gp BN zr I (ei hx2)<|aV zr Bu I fun b1=>cn zr al I<|aS 9 I<|bX<|bd<|bo I<|bo I ?_;refine cL h fun t2 q_t2 h=>aG I (dF O5 z1 I I)<|aG I (di nR I I) ?_
     obtain⟨r2,h1t2,h0t2⟩:=og q_t2
     have q_r2g:=fun H=>(h1t2 H).1
     refine aG I (fun hg=>bN Iv (va _ (q_r2g hg)) ⟨(cC I hg),J⟩)<|af (cU (M I) (fun H=>(cC I H)) (fun H=>(h1t2 H).2) h0t2)<|bo I<|cL h fun t3 q_t3 h=>aG I (dF O6 z2 I I)<|aG I (di nR I I) ?_
     obtain⟨r3,h1t3,h0t3⟩:=og q_t3
     have q_r3g:=fun H=>(h1t3 H).1
     refine aG I (fun hg=>bN LJ (BI _ (q_r3g hg)) ⟨(cC I hg),J⟩)<|af (cU (M I) (fun H=>(cC I H)) (fun H=>(h1t3 H).2) h0t3)<|j3 I<|bR<|dQ hx2 hN2 I ?_;exact bf (aO (ih2 (i2+1) t3 ⟨dJ hx2,h⟩) (bu I))
   ·obtain⟨hx1,h⟩:=h
    refine d9 hx1 I<|aN<|aq<|bl<|gp zi yb I (ei hx1)<|aV yb Fw I fun b2=>cn yb al I<|aS 7 I<|bX<|bd<|bo I<|bo I ?_;refine cL h fun t4 q_t4 h=>aG I (dF Ge z6 I I)<|aG I (di lr I I)<|aG I (fun hg=>aZ (r:=bt) (ys:=[e1.On]) (xs:=[.tmp 70]) GU lr I I I I I ⟨(cC I hg),J⟩) ?_
    obtain⟨r4,h1t4,h0t4⟩:=og q_t4
    have q_r4g:=fun H=>(h1t4 H).1
    refine aG I (fun hg=>bN PG (Gs _ (q_r4g hg)) ⟨(cC I hg),J⟩)<|af (cU (M I) (fun H=>(cC I H)) (fun H=>(h1t4 H).2) h0t4)<|bo I<|cL h fun t5 q_t5 h=>aG I (dF O8 E4 I I)<|aG I (di Mg I I) ?_
    obtain⟨r5,h1t5,h0t5⟩:=og q_t5
    have q_r5g:=fun H=>(h1t5 H).1
    refine aG I (fun hg=>bN SI (Lx _ (q_r5g hg)) ⟨(cC I hg),J⟩)<|af (cU (M I) (fun H=>(cC I H)) (fun H=>(h1t5 H).2) h0t5)<|j3 I<|bR<|dQ hx1 hN1 I ?_;exact bf (aO (ih1 (i1+1) t5 ⟨dJ hx1,h⟩) (bu I))
  ·obtain⟨D,h⟩:=h
   refine d9 D I<|aN<|aq<|bl<|gp sU pY I (ei D)<|aV pY vu I fun b3=>cn pY al I<|aS 5 I<|bX<|bd<|bo I<|bo I ?_;refine cL h fun t6 q_t6 h=>aG I (dF u6 oQ I I)<|aG I (di lr I I)<|aG I (fun hg=>aZ (r:=bt) (ys:=[e.Tree]) (xs:=[.tmp 50]) GU lr I I I I I ⟨(cC I hg),J⟩) ?_
   obtain⟨r6,h1t6,h0t6⟩:=og q_t6
   have q_r6g:=fun H=>(h1t6 H).1
   refine aG I (fun hg=>bN PG (Gs _ (q_r6g hg)) ⟨(cC I hg),J⟩)<|af (cU (M I) (fun H=>(cC I H)) (fun H=>(h1t6 H).2) h0t6)<|bo I<|cL h fun t7 q_t7 h=>aG I (dF O7 E5 I I)<|aG I (di nR I I) ?_
   obtain⟨r7,h1t7,h0t7⟩:=og q_t7
   have q_r7g:=fun H=>(h1t7 H).1
   refine aG I (fun hg=>bN LJ (BI _ (q_r7g hg)) ⟨(cC I hg),J⟩)<|af (cU (M I) (fun H=>(cC I H)) (fun H=>(h1t7 H).2) h0t7)<|j3 I<|bR<|dQ D hN I ?_;exact bf (aO (ih (i+1) t7 ⟨dJ D,h⟩) (bu I))

def TV s{R}(h:pz s=some R):de aQ 91 [K bb s] (lx R):=by
 exact ec Tryz.func91 I<|bl<|d6 I<|cS<|bX<|bl<|dk sB I<|f9 h Xy (TU _) (dU I) fun r h=>af (mT (M I))<|a8 I<|so h▸aL I I

def Uf q{R}(h:vV q=some R):de aQ 39 [K bI q] (aW R):=by
 refine ec Tryz.func39 I<|bl<|d6 I<|cv<|bX<|bl<|bW u9 qO Hb I<|cR wK I<|af (jA (M I) hI)<|bo I<|aG I (dF u9 qO I I)<|aG I (di Hb I I)<|aG I (lZ wK I)<|aG I (fun hg=>nt (cC I hg) hI)<|im I<|bo I<|aG I (dF xq oP I I)<|aG I (di Ha I I)<|aG I (lZ A5 I)<|aG I (fun hg=>nt (cC I hg) hI) ?_;refine im I<|bo I<|cL h fun t q_t h=>aG I (dF Gj tt I I)<|aG I (di da I I)<|aG I (nD I)<|aG I (sy I) ?_
 obtain⟨t1,h1t,h0t⟩:=og q_t
 have q_t1g:=fun H=>(h1t H).1
 refine fT I I I I (fun hg=>wP Gj tt I I)<|fT I I I I (fun hg=>nc da I I (cC I hg)) ?_
 obtain⟨r,h1t1,h0t1⟩:=Vf q_t1g
 have q_rg:=fun H=>(h1t1 H).1
 refine fT I I I I (fun hg=>bN VP (Pf _ (q_rg hg)) ⟨(cC I hg),J⟩)<|aG I (fun hg=>ef (cC I hg) (fun H=>(cC I (tP hg (rd H)))) (fun H=>(h1t1 (tP hg H)).2) (fun H=>h0t1 hg H))<|af (cU (M I) (fun H=>(cC I H)) (fun H=>(h1t H).2) h0t)<|bw I<|bv<|bW xq oP Ha I<|cR A5 I<|af (bL hI)<|bX<|aq<|aY (k:=33) I fun hN=>bO ?_;refine aO (jc (aA:=fun ls i ok=>(q.Keys.drop i=ls)/\mP q ls ok=some R) (Of:=fun _ i ok=>[]) (Gf:=fun _ i ok=>[(1,aU bI q),(3,lx ok),(33,hM (jg) q.Keys),(34,kO q.Keys),(35,aW (i:Int))]) (fun i ok h=>?_) (fun e tl ih i ok h=>?_) q.Keys 0 t ⟨I,h⟩) (bu I)
 ·obtain⟨D,h⟩:=h
  refine ea D I<|aJ<|bv<|bo I<|af (mT (M I))<|bo I<|cL h fun t2 q_t2 h=>aM I (dF u9 qO I I)<|aM I (di Hb I I) ?_
  obtain⟨r1,h1t2,h0t2⟩:=og q_t2
  have q_r1g:=fun H=>(h1t2 H).1
  refine aM I (fun hg=>bN XA (TW _ _ (q_r1g hg)) ⟨(cC I hg),(TD Xz fun x y h=>TV _ h),J⟩)<|af (ef (M I) (fun H=>(cC I (rd H))) (fun H=>(h1t2 H).2) h0t2)<|dl h I (fun h=>?_) (fun h=>?_)
  ·exact bl<|fN<|ai<|so h▸aL I I
  ·exact lW<|bl<|fN<|so h▸aL I I
 ·obtain⟨D,h⟩:=h
  refine d9 D I<|aN<|aq<|bl<|gp A5 Bd I (ei D)<|aV Bd IS I fun b=>cn Bd al I<|aS 5 I<|bX<|bd<|bo I<|bo I ?_;refine cL h fun t3 q_t3 h=>aG I (dF C8 uZ I I)<|aG I (di nR I I)<|aG I (fun hg=>pb (cC I hg) hS)<|aG I (sy I) ?_
  obtain⟨t4,h1t3,h0t3⟩:=og q_t3
  have q_t4g:=fun H=>(h1t3 H).1
  refine fk I I I I (fun hg=>wP C7 uY I I)<|fk I I I I (fun hg=>nc da I I (cC I hg)) ?_
  obtain⟨r2,h1t4,h0t4⟩:=Vf q_t4g
  have q_r2g:=fun H=>(h1t4 H).1
  refine fk I I I I (fun hg=>bN VP (Pf _ (q_r2g hg)) ⟨(cC I hg),J⟩)<|aG I (fun hg=>cU (cC I hg) (fun H=>(cC I (tP hg H))) (fun H=>(h1t4 (tP hg H)).2) (fun H=>h0t4 hg H))<|aG I (sy I) ?_
  obtain⟨t5,h1t3⟩:=Tx (fun H=>(h1t3 H).2)
  have q_t5g:=fun H=>(h1t3 H).1
  refine fT I I I I (fun hg=>wP C8 uZ I I)<|fT I I I I (fun hg=>nc nR I I (cC I hg)) ?_
  obtain⟨r3,h1t5,h0t5⟩:=Vf q_t5g
  have q_r3g:=fun H=>(h1t5 H).1
  refine fT I I I I (fun hg=>bN Iv (va _ (q_r3g hg)) ⟨(cC I hg),J⟩)<|fT I I I I (fun hg=>bL (cC I hg))<|fk I I I I (fun hg=>wP C7 uY I I)<|fk I I I I (fun hg=>nc da I I (cC I hg))<|fk I I I I (fun hg=>nd (cC I hg) hI)<|fT I I I I (fun hg=>kV (cC I hg) (fun H=>(cC I (tP hg H))))<|aG I (fun hg=>ef (cC I hg) (fun H=>(cC I (tP hg (rd H)))) (fun H=>(h1t5 (tP hg H)).2) (fun H=>h0t5 hg H))<|af (cU (M I) (fun H=>(cC I H)) (fun H=>(h1t3 H).2) h0t3)<|j3 I<|bR<|dQ D hN I ?_;exact bf (aO (ih (i+1) t3 ⟨dJ D,h⟩) (bu I))

def Rw c name{R}(h:mN c name=some R):de aQ 173 [K bq c,K rS name] (tT [aW R.1,lx R.2]):=by
 exact ec Tryz.func173 I<|bl<|d6 I<|cv<|cS<|bX<|bl<|bW pR jl zu I<|bo I<|f9 h SK (Lz _ _ _) ⟨(M I),(TD VQ fun x y h=>Pg _ h),(M I),J⟩ fun r h=>dE I I<|dE I I<|j3 I<|a8 I<|so h▸eC I I I

def Rv s{R}(h:rM s=some R):de aQ 174 [K gc s] (K rS R):=by
 refine ec Tryz.func174 I<|bl<|d6 I<|af (ck hS)<|bX<|bv<|bW JQ uV nR I<|af (pb (M I) hS)<|dl h I (fun h=>?_) (fun h=>?_)
 ·exact bl<|bW JR uW nR I<|a8 I<|ai<|so h▸aL I I
 ·exact lW<|bl<|bW JQ uV nR I<|a8 I<|so h▸aL I I

set_option maxHeartbeats 4000000 in
def Po(b:Nat)(ix:OI) s p{R}(h:fK s p=some R):ek aQ 139 [tV (ak b 0),K gc p] (cx b s ix) (fun _:OI=>aW R.1) (fun j=>cx b R.2 j):=by
 refine ek.of Tryz.func139 I I I fun w0 S0=>?_;refine(show CG _ _ _ [bx (rH ax (z10 ix s)) 127 b s,Z Q 3 (ix.h 0).1 (ix.h 0).2 s.out.Tables,Z aD 71 (ix.h 1).1 (ix.h 1).2 s.out.Joins,Z Q 3 (ix.h 2).1 (ix.h 2).2 s.out.Keys,Z aR 73 (ix.h 3).1 (ix.h 3).2 s.out.Aggs,Z ae 62 (ix.h 4).1 (ix.h 4).2 s.out.Items,Z Q 3 (ix.h 5).1 (ix.h 5).2 s.kinds,Z Q 3 (ix.h 6).1 (ix.h 6).2 s.groups,br ke dn (ix.h 7).2 none (ix.oss 0) s.called,br dV dn (ix.h 8).2 none (ix.oss 1) s.alone,dG (fun y:Int=>aW y) iX (ix.h 9).2 s.behind] _ from ?_);refine bl<|d6 I<|cv<|bX<|aN<|cL h fun r q_r h=>?_
 refine lU (ts:=[_,_,_,_,_,_,_,_,_,_,_,_]) mixed I I
  ⟨oz I I,
  ⟨ly 12 0 I I (bB (M I)),
  ⟨ly 13 1 I I (oy 0 Gm I I I),
  ⟨ly 14 2 I I (bz (r:=rH ax (z10 ix s)) (x:=s) pn I I (qb xj) (.head _) (M I)),
  ⟨AA 3 I I (wP JR uW I I),
  ⟨zp 4 nR I I,
  ⟨nP 15 3 17 5 I I I (bN We (Rw _ _ q_r) ⟨(M I),(M I),J⟩),
  ⟨ly 18 6 I I (jr I),
  ⟨ly 11 7 I I (wd I I),
  ⟨ly 11 7 I I (wd I I),
  ⟨ly 19 8 I I (DN I),
  ⟨ly 20 9 I I (DN I),
  J⟩⟩⟩⟩⟩⟩⟩⟩⟩⟩⟩⟩ ?_
 refine aJ<|bl<|dk Mg I<|f9 h Wd (Rv _) (dU I) fun r1 h=>bw I<|aN<|aq<|aI I<|af (mT (M I))<|bw I<|sm h I (fun h=>?_) (fun h=>?_)
 ·exact bl<|fN<|cQ<|so h▸dK I ix I I (fun _ _ h=>h)
 ·refine aI I<|af (bB (M I))<|bF 19 Lt I<|af (m5 Sn I (.head _) (M I))<|bo I<|af (Jv (γ:=fun y:Bool=>K rB y) (z:=false) Tryz.underlying123 (yy hY) zv4 (fun S=>⟨_,I,(fun _=>I) S⟩) (.tail _ (.tail _ (.tail _ (.tail _ (.tail _ (.tail _ (.tail _ (.tail _ (.head _))))))))) (M I) (OS (M I)))<|bw I<|sm h I (fun h=>?_) (fun h=>?_)
  ·exact bl<|fN<|cQ<|so h▸dK I ix I I (fun _ _ h=>h)
  ·refine bT<|ca<|aJ<|aI I<|af (bB (M I))<|bF 19 Lt I<|af (m5 Sn I (.head _) (M I))<|bo I<|Ny<|R7 (γ:=fun y:Bool=>lx y) Tryz.underlying123 (yy hY) (M I) (OS (M I)) hB fun os=>dx<|Km (r' :=rH ax (z10 ix s)) (x' :=({s with called:=(ie s.called r1 true)}:ac)) (fun _ _ _ _ h=>h) ?_;refine(show RG _ _ _ _ [_,_,_,_,_,_,_,_,_,_,_] _ from ?_);refine bX<|aI I<|bo I<|af (bB (M I))<|bF 10 fa I<|bF 10 Aa I<|af (eg iC I (.head _) (.tail _ (.tail _ (.head _))) (M I))<|bo I<|af (aZ (r:=Q) (ys:=[r.1]) (xs:=[.tmp 44]) f8 da I I I I I ⟨(M I),J⟩)<|jR<|cL h fun l q_l h=>qV da I I I I f8 I I (M I) (M I) q_l fun l1 c=>af (bB (M I))<|bF 10 fa I<|bF 10 Aa I<|ik (EffOK.fr1 (lc (hs' :=[(10,Y l1 c l.length),(11,Y (ix.h 1).1 (ix.h 1).2 s.out.Joins.length),(16,Y (ix.h 2).1 (ix.h 2).2 s.out.Keys.length),(17,Y (ix.h 3).1 (ix.h 3).2 s.out.Aggs.length),(18,Y (ix.h 4).1 (ix.h 4).2 s.out.Items.length),(22,Y (ix.h 5).1 (ix.h 5).2 s.kinds.length),(23,Y (ix.h 6).1 (ix.h 6).2 s.groups.length),(19,am (ix.h 7).2),(20,am (ix.h 8).2),(21,am (ix.h 9).2)]) (u:=Y l1 c l.length) iC I I (kq f7 j7 FT) I ⟨.inl ⟨I,I,I⟩,.inr ⟨I,I⟩,.inr ⟨I,I⟩,.inr ⟨I,I⟩,.inr ⟨I,I⟩,.inr ⟨I,I⟩,.inr ⟨I,I⟩,.inr ⟨I,I⟩,.inr ⟨I,I⟩,.inr ⟨I,I⟩,J⟩ (M I) (pZ (M I)) (wT (M I)))) fun i=>?_;refine(show RG _ _ _ _ [_,_,_,_,_,_,_,_,_,_,_] _ from ?_);refine cL h fun sc q_sc h=>lw (O' :=[bx (rH ax [(10,Y l1 c sc.out.Tables.length),(11,Y (ix.h 1).1 (ix.h 1).2 sc.out.Joins.length),(16,Y (ix.h 2).1 (ix.h 2).2 sc.out.Keys.length),(17,Y (ix.h 3).1 (ix.h 3).2 sc.out.Aggs.length),(18,Y (ix.h 4).1 (ix.h 4).2 sc.out.Items.length),(22,Y (ix.h 5).1 (ix.h 5).2 sc.kinds.length),(23,Y (ix.h 6).1 (ix.h 6).2 sc.groups.length),(19,am (ix.h 7).2),(20,am (ix.h 8).2),(21,am (ix.h 9).2)]) 127 b sc,Z Q 3 l1 c sc.out.Tables,br ke dn (ix.h 7).2 none os sc.called,Z aD 71 (ix.h 1).1 (ix.h 1).2 sc.out.Joins,Z Q 3 (ix.h 2).1 (ix.h 2).2 sc.out.Keys,Z aR 73 (ix.h 3).1 (ix.h 3).2 sc.out.Aggs,Z ae 62 (ix.h 4).1 (ix.h 4).2 sc.out.Items,Z Q 3 (ix.h 5).1 (ix.h 5).2 sc.kinds,Z Q 3 (ix.h 6).1 (ix.h 6).2 sc.groups,br dV dn (ix.h 8).2 none (ix.oss 1) sc.alone,dG (fun y:Int=>aW y) iX (ix.h 9).2 sc.behind]) (by cases so q_sc;exact I)<|bX<|bv<|bo I<|af (bB (M I))<|bF 0 Gm I<|bF 0 pR I<|af (bz (r:=rH ax [(10,Y l1 c sc.out.Tables.length),(11,Y (ix.h 1).1 (ix.h 1).2 sc.out.Joins.length),(16,Y (ix.h 2).1 (ix.h 2).2 sc.out.Keys.length),(17,Y (ix.h 3).1 (ix.h 3).2 sc.out.Aggs.length),(18,Y (ix.h 4).1 (ix.h 4).2 sc.out.Items.length),(22,Y (ix.h 5).1 (ix.h 5).2 sc.kinds.length),(23,Y (ix.h 6).1 (ix.h 6).2 sc.groups.length),(19,am (ix.h 7).2),(20,am (ix.h 8).2),(21,am (ix.h 9).2)]) (x:=sc) zu I I (qb (fg xj jl)) (.head _) (M I))<|bo I<|cL h fun e q_e h=>re sS lL I q_e<|bW pd kX wq I<|cR ra I<|af (bL hI)<|bX<|aq<|aY (k:=58) I fun hN=>bO ?_;refine em<|em<|Ao<|em<|em<|em<|em<|em<|em<|em<|em ?_;refine aO (q8 (aA:=fun ls i1 ob ix1=>(e.Columns.drop i1=ls)/\fi r1 ls ob=some R) (Of:=fun _ i1 ob (ix1:OI)=>[bx (rH ax (z10 ix1 ob)) 127 b ob,Z Q 3 (ix1.h 0).1 (ix1.h 0).2 ob.out.Tables,Z aD 71 (ix1.h 1).1 (ix1.h 1).2 ob.out.Joins,Z Q 3 (ix1.h 2).1 (ix1.h 2).2 ob.out.Keys,Z aR 73 (ix1.h 3).1 (ix1.h 3).2 ob.out.Aggs,Z ae 62 (ix1.h 4).1 (ix1.h 4).2 ob.out.Items,Z Q 3 (ix1.h 5).1 (ix1.h 5).2 ob.kinds,Z Q 3 (ix1.h 6).1 (ix1.h 6).2 ob.groups,br ke dn (ix1.h 7).2 none (ix1.oss 0) ob.called,br dV dn (ix1.h 8).2 none (ix1.oss 1) ob.alone,dG (fun y:Int=>aW y) iX (ix1.h 9).2 ob.behind]) (Gf:=fun _ i1 ob ix1=>[(0,tV (ak b 0)),(7,K rS r1),(58,hM (cj) e.Columns),(59,kO e.Columns),(60,aW (i1:Int))]) (fun i1 ob ix1 h=>?_) (fun e1 tl ih i1 ob ix1 h=>?_) e.Columns 0 sc (QL [(l1,c),((ix.h 1).1,(ix.h 1).2),((ix.h 2).1,(ix.h 2).2),((ix.h 3).1,(ix.h 3).2),((ix.h 4).1,(ix.h 4).2),((ix.h 5).1,(ix.h 5).2),((ix.h 6).1,(ix.h 6).2),(none,(ix.h 7).2),(none,(ix.h 8).2),(none,(ix.h 9).2)] [os,(ix.oss 1),[]]) ⟨I,h⟩) (bu I)
   ·obtain⟨D,h⟩:=h
    exact ea D I<|aJ<|bl<|fN<|so h▸dK I ix1 I I (fun _ _ h=>h)
   ·obtain⟨D,h⟩:=h
    refine d9 D I<|aN<|aq<|bl<|gp ra kg I (ei D)<|aV kg nC I fun b1=>cn kg al I<|aS 9 I<|bX<|aI I ?_;refine af (bB (M I))<|bF 22 rE I<|af (eg iC I (.head _) (.tail _ (.tail _ (.tail _ (.tail _ (.tail _ (.tail _ (.head _))))))) (M I))<|af (mh f8 (pZ (M I)))<|bw I<|aN<|cL h fun l9 q_l9 h=>?_
    refine fm 16 [tc (tV (ak b 0)),tc (tV (ak b 0)),tc (tV (ak b 20)),tc (tV (am (ix1.h 8).2)),tc (aU rS e1.Name),tc (K rS e1.Name),tc (tV (ak b 0)),tc (tV (ak b 0)),tc (tV (ak b 20)),tc (tV (am (ix1.h 8).2)),tc (aU rS e1.Name),tc (K rS e1.Name),([12],fun s=>tO Q ((s.getD 0 nQ).h 0).1 ((s.getD 0 nQ).h 0).2 ((fD ob.alone e1.Name).getD [])),tc (kO ob.kinds),tc (qq ([(ob.kinds.length:Int)])),([15],fun s=>tO Q ((s.getD 0 nQ).h 0).1 ((s.getD 0 nQ).h 0).2 l9)] [false,false,false,false,false,false,false,false,false,false,false,false,true,false,false,true] [fun _=>[bx (rH ax (z10 ix1 ob)) 127 b ob,Z Q 3 (ix1.h 0).1 (ix1.h 0).2 ob.out.Tables,Z aD 71 (ix1.h 1).1 (ix1.h 1).2 ob.out.Joins,Z Q 3 (ix1.h 2).1 (ix1.h 2).2 ob.out.Keys,Z aR 73 (ix1.h 3).1 (ix1.h 3).2 ob.out.Aggs,Z ae 62 (ix1.h 4).1 (ix1.h 4).2 ob.out.Items,Z Q 3 (ix1.h 5).1 (ix1.h 5).2 ob.kinds,Z Q 3 (ix1.h 6).1 (ix1.h 6).2 ob.groups,br ke dn (ix1.h 7).2 none (ix1.oss 0) ob.called,br dV dn (ix1.h 8).2 none (ix1.oss 1) ob.alone,dG (fun y:Int=>aW y) iX (ix1.h 9).2 ob.behind],fun sg=>[Z Q 3 ((sg 12).h 0).1 ((sg 12).h 0).2 ((fD ob.alone e1.Name).getD []),br dV dn (ix1.h 8).2 (some e1.Name) (sg 12).os ob.alone,bx (rH ax (z10 ix1 ob)) 127 b ob,Z Q 3 (ix1.h 0).1 (ix1.h 0).2 ob.out.Tables,Z aD 71 (ix1.h 1).1 (ix1.h 1).2 ob.out.Joins,Z Q 3 (ix1.h 2).1 (ix1.h 2).2 ob.out.Keys,Z aR 73 (ix1.h 3).1 (ix1.h 3).2 ob.out.Aggs,Z ae 62 (ix1.h 4).1 (ix1.h 4).2 ob.out.Items,Z Q 3 (ix1.h 5).1 (ix1.h 5).2 ob.kinds,Z Q 3 (ix1.h 6).1 (ix1.h 6).2 ob.groups,br ke dn (ix1.h 7).2 none (ix1.oss 0) ob.called,dG (fun y:Int=>aW y) iX (ix1.h 9).2 ob.behind],fun sg=>[Z Q 3 ((sg 15).h 0).1 ((sg 15).h 0).2 l9,br dV dn (ix1.h 8).2 (some e1.Name) (sg 12).os ob.alone,bx (rH ax (z10 ix1 ob)) 127 b ob,Z Q 3 (ix1.h 0).1 (ix1.h 0).2 ob.out.Tables,Z aD 71 (ix1.h 1).1 (ix1.h 1).2 ob.out.Joins,Z Q 3 (ix1.h 2).1 (ix1.h 2).2 ob.out.Keys,Z aR 73 (ix1.h 3).1 (ix1.h 3).2 ob.out.Aggs,Z ae 62 (ix1.h 4).1 (ix1.h 4).2 ob.out.Items,Z Q 3 (ix1.h 5).1 (ix1.h 5).2 ob.kinds,Z Q 3 (ix1.h 6).1 (ix1.h 6).2 ob.groups,br ke dn (ix1.h 7).2 none (ix1.oss 0) ob.called,dG (fun y:Int=>aW y) iX (ix1.h 9).2 ob.behind]] I mixed I I I I I
     ⟨⟨[⟨0,fun _=>tV (ak b 0),none⟩],_,0,2,I,⟨(fun _=>I),J⟩,I,I,I,I,I,fun _ sg _ _=>aE I (jr I)⟩,
     ⟨⟨[⟨69,fun _=>tV (ak b 0),some 0⟩],_,0,2,I,⟨(fun _=>I),J⟩,I,I,I,I,I,fun _ sg _ _=>aE I (bB (M I))⟩,
     ⟨⟨[⟨70,fun _=>tV (ak b 0),some 1⟩],_,0,2,I,⟨(fun _=>I),J⟩,I,I,I,I,I,fun _ sg _ _=>aE I (oy 20 Gl I I I)⟩,
     ⟨⟨[⟨71,fun _=>tV (ak b 20),some 2⟩],_,0,2,I,⟨(fun _=>I),J⟩,I,I,I,I,I,qx (fun sg=>aE I (m5 Hd I (.head _) (M I))) (qx (fun sg=>aE I (m5 Hd I (.tail _ (.tail _ (.head _))) (M I))) (eY (fun sg=>aE I (m5 Hd I (.tail _ (.tail _ (.head _))) (M I)))))⟩,
     ⟨⟨[⟨9,fun _=>aU cj e1,none⟩],_,0,2,I,⟨(fun _=>I),J⟩,I,I,I,I,I,fun _ sg _ _=>aE I (wP yL px I I)⟩,
     ⟨⟨[⟨73,fun _=>aU rS e1.Name,some 4⟩],_,0,2,I,⟨(fun _=>I),J⟩,I,I,I,I,I,fun _ sg _ _=>aE I (sX nR I I)⟩,
     ⟨⟨[⟨0,fun _=>tV (ak b 0),none⟩],_,0,0,I,⟨(fun _=>I),J⟩,I,I,I,I,I,fun _ sg _ _=>aE I (jr I)⟩,
     ⟨⟨[⟨75,fun _=>tV (ak b 0),some 6⟩],_,0,0,I,⟨(fun _=>I),J⟩,I,I,I,I,I,fun _ sg _ _=>aE I (bB (M I))⟩,
     ⟨⟨[⟨76,fun _=>tV (ak b 0),some 7⟩],_,0,0,I,⟨(fun _=>I),J⟩,I,I,I,I,I,fun _ sg _ _=>aE I (oy 20 Gl I I I)⟩,
     ⟨⟨[⟨77,fun _=>tV (ak b 20),some 8⟩],_,0,0,I,⟨(fun _=>I),J⟩,I,I,I,I,I,eY (fun sg=>aE I (m5 Hd I (.head _) (M I)))⟩,
     ⟨⟨[⟨9,fun _=>aU cj e1,none⟩],_,0,0,I,⟨(fun _=>I),J⟩,I,I,I,I,I,fun _ sg _ _=>aE I (wP yL px I I)⟩,
     ⟨⟨[⟨79,fun _=>aU rS e1.Name,some 10⟩],_,0,0,I,⟨(fun _=>I),J⟩,I,I,I,I,I,fun _ sg _ _=>aE I (sX nR I I)⟩,
     ⟨⟨[⟨78,fun _=>tV (am (ix1.h 8).2),some 9⟩,⟨80,fun _=>K rS e1.Name,some 11⟩],_,I,⟨(fun _=>I),(fun _=>I),J⟩,I,I,I,fun sg=>bJ I (EffOK.fr9 (Nj Tryz.underlying124 (yy hY) UN (M I) (OS (M I))))⟩,
     ⟨⟨[⟨10,fun _=>K Q (ob.kinds.length:Int),none⟩],_,0,1,I,⟨(fun _=>I),J⟩,I,I,I,I,I,fun _ sg _ _=>aE I (jr I)⟩,
     ⟨⟨[⟨82,fun _=>K Q (ob.kinds.length:Int),some 13⟩],_,0,1,I,⟨(fun _=>I),J⟩,I,I,I,I,I,fun _ sg _ _=>aE I (aZ (r:=Q) (ys:=[(ob.kinds.length:Int)]) (xs:=[.tmp 82]) f8 da I I I I I ⟨(M I),J⟩)⟩,
     ⟨⟨[⟨81,fun sg=>tO Q ((sg 12).h 0).1 ((sg 12).h 0).2 ((fD ob.alone e1.Name).getD []),some 12⟩,⟨83,fun _=>K A7 ([(ob.kinds.length:Int)]),some 14⟩],_,I,⟨(fun _=>I),(fun _=>I),J⟩,I,I,I,fun sg=>bJ I (jY da I I I I f8 I (M I) (M I) q_l9)⟩,
     J⟩⟩⟩⟩⟩⟩⟩⟩⟩⟩⟩⟩⟩⟩⟩⟩ (fun sg=>?_)
    refine(show RG _ _ _ _ [_,_,_,_,_,_,_,_,_,_,_,_] _ from ?_);refine dx<|dx<|R8 Tryz.underlying124 (yy hY) (M I) (OS (M I)) (M I) fun os1=>dx<|Km (r' :=rH ax (z10 ix1 ob)) (x' :=({ob with alone:=(ie ob.alone e1.Name l9)}:ac)) (fun _ _ _ _ h=>h) ?_;refine(show RG _ _ _ _ [_,_,_,_,_,_,_,_,_,_,_] _ from ?_);refine bX<|aN ?_
    refine vr 9 (ts:=[tV (ak b 0),tV (ak b 0),tV (ak b 21),tV (am (ix1.h 9).2),K rS r1,aU rS e1.Name,K rS e1.Name,K eH (⟨r1,e1.Name⟩:iN),kO ob.kinds]) mixed I I I
     ⟨oz I I,
     ⟨ly 85 0 I I (bB (M I)),
     ⟨ly 86 1 I I (oy 21 Ls I I I),
     ⟨ly 87 2 I I (m5 Sm I (.head _) (M I)),
     ⟨oz I I,
     ⟨AA 9 I I (wP yL px I I),
     ⟨zp 5 nR I I,
     ⟨nP 89 4 91 6 I I I (co (y:=(⟨r1,e1.Name⟩:iN)) zr Vr Bu (⟨_,_,_,_,_,I,EA,I,(M I),⟨_,_,_,_,_,I,Ez,I,(M I),I⟩⟩)),
     ⟨oz I I,
     J⟩⟩⟩⟩⟩⟩⟩⟩⟩ ?_
    refine Kl<|R9 (γ:=fun y:Int=>aW y) Tryz.underlying125 Vk (M I) (OT (p:=((⟨r1,e1.Name⟩:iN).Table,(⟨r1,e1.Name⟩:iN).Name)) I (fun _ _ h=>Vm h) (M I)) (M I)<|dx<|Km (r' :=rH ax (z10 ix1 ob)) (x' :=({({ob with alone:=(ie ob.alone e1.Name l9)}:ac)with behind:=(ie ob.behind ((⟨r1,e1.Name⟩:iN).Table,(⟨r1,e1.Name⟩:iN).Name) (ob.kinds.length:Int))}:ac)) (fun _ _ _ _ h=>h) ?_;refine(show RG _ _ _ _ [_,_,_,_,_,_,_,_,_,_,_] _ from ?_);refine cL h fun sc1 q_sc1 h=>lw (O' :=[bx (rH ax (z10 ix1 sc1)) 127 b sc1,dG (fun y:Int=>aW y) iX (ix1.h 9).2 sc1.behind,br dV dn (ix1.h 8).2 none os1 sc1.alone,Z Q 3 (ix1.h 0).1 (ix1.h 0).2 sc1.out.Tables,Z aD 71 (ix1.h 1).1 (ix1.h 1).2 sc1.out.Joins,Z Q 3 (ix1.h 2).1 (ix1.h 2).2 sc1.out.Keys,Z aR 73 (ix1.h 3).1 (ix1.h 3).2 sc1.out.Aggs,Z ae 62 (ix1.h 4).1 (ix1.h 4).2 sc1.out.Items,Z Q 3 (ix1.h 5).1 (ix1.h 5).2 sc1.kinds,Z Q 3 (ix1.h 6).1 (ix1.h 6).2 sc1.groups,br ke dn (ix1.h 7).2 none (ix1.oss 0) sc1.called]) (by cases so q_sc1;exact I)<|bX<|cL h fun l10 q_l10 h=>?_
    refine fm 9 [tc (tV (ak b 0)),tc (tV (ak b 0)),tc (tV (ak b 0)),tc (tV (ak b 22)),tc (tO Q (ix1.h 5).1 (ix1.h 5).2 sc1.kinds),tc (aU Q e1.Kind),tc (aW e1.Kind),tc (qq ([e1.Kind])),([8],fun s=>tO Q ((s.getD 0 nQ).h 0).1 ((s.getD 0 nQ).h 0).2 l10)] [false,false,false,false,false,false,false,false,true] [fun _=>[bx (rH ax (z10 ix1 sc1)) 127 b sc1,dG (fun y:Int=>aW y) iX (ix1.h 9).2 sc1.behind,br dV dn (ix1.h 8).2 none os1 sc1.alone,Z Q 3 (ix1.h 0).1 (ix1.h 0).2 sc1.out.Tables,Z aD 71 (ix1.h 1).1 (ix1.h 1).2 sc1.out.Joins,Z Q 3 (ix1.h 2).1 (ix1.h 2).2 sc1.out.Keys,Z aR 73 (ix1.h 3).1 (ix1.h 3).2 sc1.out.Aggs,Z ae 62 (ix1.h 4).1 (ix1.h 4).2 sc1.out.Items,Z Q 3 (ix1.h 5).1 (ix1.h 5).2 sc1.kinds,Z Q 3 (ix1.h 6).1 (ix1.h 6).2 sc1.groups,br ke dn (ix1.h 7).2 none (ix1.oss 0) sc1.called],fun sg1=>[Z Q 3 ((sg1 8).h 0).1 ((sg1 8).h 0).2 l10,bx (rH ax (z10 ix1 sc1)) 127 b sc1,dG (fun y:Int=>aW y) iX (ix1.h 9).2 sc1.behind,br dV dn (ix1.h 8).2 none os1 sc1.alone,Z Q 3 (ix1.h 0).1 (ix1.h 0).2 sc1.out.Tables,Z aD 71 (ix1.h 1).1 (ix1.h 1).2 sc1.out.Joins,Z Q 3 (ix1.h 2).1 (ix1.h 2).2 sc1.out.Keys,Z aR 73 (ix1.h 3).1 (ix1.h 3).2 sc1.out.Aggs,Z ae 62 (ix1.h 4).1 (ix1.h 4).2 sc1.out.Items,Z Q 3 (ix1.h 6).1 (ix1.h 6).2 sc1.groups,br ke dn (ix1.h 7).2 none (ix1.oss 0) sc1.called]] I mixed I I I I I
     ⟨⟨[⟨0,fun _=>tV (ak b 0),none⟩],_,0,1,I,⟨(fun _=>I),J⟩,I,I,I,I,I,fun _ sg1 _ _=>aE I (jr I)⟩,
     ⟨⟨[⟨0,fun _=>tV (ak b 0),none⟩],_,0,0,I,⟨(fun _=>I),J⟩,I,I,I,I,I,fun _ sg1 _ _=>aE I (jr I)⟩,
     ⟨⟨[⟨95,fun _=>tV (ak b 0),some 1⟩],_,0,0,I,⟨(fun _=>I),J⟩,I,I,I,I,I,fun _ sg1 _ _=>aE I (bB (M I))⟩,
     ⟨⟨[⟨96,fun _=>tV (ak b 0),some 2⟩],_,0,0,I,⟨(fun _=>I),J⟩,I,I,I,I,I,fun _ sg1 _ _=>aE I (oy 22 rE I I I)⟩,
     ⟨⟨[⟨97,fun _=>tV (ak b 22),some 3⟩],_,0,0,I,⟨(fun _=>I),J⟩,I,I,I,I,I,eY (fun sg1=>aE I (eg iC I (.head _) (.tail _ (.tail _ (.tail _ (.tail _ (.tail _ (.tail _ (.tail _ (.tail _ (.head _))))))))) (M I)))⟩,
     ⟨⟨[⟨9,fun _=>aU cj e1,none⟩],_,0,0,I,⟨(fun _=>I),J⟩,I,I,I,I,I,fun _ sg1 _ _=>aE I (wP Gn u0 I I)⟩,
     ⟨⟨[⟨99,fun _=>aU Q e1.Kind,some 5⟩],_,0,0,I,⟨(fun _=>I),J⟩,I,I,I,I,I,fun _ sg1 _ _=>aE I (sX da I I)⟩,
     ⟨⟨[⟨100,fun _=>K Q e1.Kind,some 6⟩],_,0,0,I,⟨(fun _=>I),J⟩,I,I,I,I,I,fun _ sg1 _ _=>aE I (aZ (r:=Q) (ys:=[e1.Kind]) (xs:=[.tmp 100]) f8 da I I I I I ⟨(M I),J⟩)⟩,
     ⟨⟨[⟨98,fun _=>tO Q (ix1.h 5).1 (ix1.h 5).2 sc1.kinds,some 4⟩,⟨101,fun _=>K A7 ([e1.Kind]),some 7⟩],_,I,⟨(fun _=>I),(fun _=>I),J⟩,I,I,I,fun sg1=>bJ I (EffOK.fr8 (jY da I I I I f8 I (M I) (M I) q_l10))⟩,
     J⟩⟩⟩⟩⟩⟩⟩⟩⟩ (fun sg1=>?_)
    refine(show RG _ _ _ _ [_,_,_,_,_,_,_,_,_,_,_] _ from ?_);refine af (bB (M I))<|bF 22 rE I<|ik (EffOK.fr1 (lc (hs' :=[(10,Y (ix1.h 0).1 (ix1.h 0).2 sc1.out.Tables.length),(11,Y (ix1.h 1).1 (ix1.h 1).2 sc1.out.Joins.length),(16,Y (ix1.h 2).1 (ix1.h 2).2 sc1.out.Keys.length),(17,Y (ix1.h 3).1 (ix1.h 3).2 sc1.out.Aggs.length),(18,Y (ix1.h 4).1 (ix1.h 4).2 sc1.out.Items.length),(22,Y ((sg1 8).h 0).1 ((sg1 8).h 0).2 l10.length),(23,Y (ix1.h 6).1 (ix1.h 6).2 sc1.groups.length),(19,am (ix1.h 7).2),(20,am (ix1.h 8).2),(21,am (ix1.h 9).2)]) (u:=Y ((sg1 8).h 0).1 ((sg1 8).h 0).2 l10.length) iC I I I8 I ⟨.inr ⟨I,I⟩,.inr ⟨I,I⟩,.inr ⟨I,I⟩,.inr ⟨I,I⟩,.inr ⟨I,I⟩,.inl ⟨I,I,I⟩,.inr ⟨I,I⟩,.inr ⟨I,I⟩,.inr ⟨I,I⟩,.inr ⟨I,I⟩,J⟩ (M I) (pZ (M I)) (wT (M I)))) fun i2=>?_;refine(show RG _ _ _ _ [_,_,_,_,_,_,_,_,_,_,_] _ from ?_);refine bR<|dQ D hN I<|iO<|nN<|ah<|ah<|ew<|ah<|ah<|ah<|ah<|ah<|ah ?_;exact bf (aO (ih (i1+1) ({sc1 with kinds:=l10}:ac) (QL [((ix1.h 0).1,(ix1.h 0).2),((ix1.h 1).1,(ix1.h 1).2),((ix1.h 2).1,(ix1.h 2).2),((ix1.h 3).1,(ix1.h 3).2),((ix1.h 4).1,(ix1.h 4).2),(((sg1 8).h 0).1,((sg1 8).h 0).2),((ix1.h 6).1,(ix1.h 6).2),(none,(ix1.h 7).2),(none,(ix1.h 8).2),(none,(ix1.h 9).2)] [(ix1.oss 0),os1,[]]) ⟨dJ D,h⟩) (bu I))

end Go.Proofs.YthbdkceckjihgaaGreatDoor

