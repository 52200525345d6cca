/- eJ of this claim: P11. -/
import Derived.Test.YtpgjgkdpeagjbaaGreatDoorJaT
import Derived.Test.YtpgjgkdpeagjbaaGreatDoorJaP10
set_option linter.all false
namespace Go.Proofs.YtpgjgkdpeagjbaaGreatDoor
open Go
set_option maxRecDepth 100000

def adJ(l:Option Nat)(c:Nat) s eq{R}(h:gE s eq=some R):ea aU 98 [my l c s,(fL aU Jf qd (fun(x:(List ac)×(List ac))=>eq x.1 x.2))] [ff cu 54 l c s] (fun i:OI=>my (i.h 0).1 (i.h 0).2 R) (fun i=>[ff cu 54 (i.h 0).1 (i.h 0).2 R]):=by
 refine ea.of Tryz.func98 J J J fun w0 S0=>Z<|bQ false cu 54<|T (bp qa)<|bB<|aE<|Q J<|T (fO eK (.tail _ (.head _)) (Y J))<|T (du (Y J) hI)<|bE h J (fun h=>?_) (fun h=>?_)
 ·exact ax J<|aM J<|af<|aG<|so h▸pt J (oi l c) J J (fun _ _ h=>h)
 ·refine dZ<|aE<|bh<|bB<|am<|o7 (.tail _ (.head _)) fun hN=>bA<|mI ?_;refine aD (eI (aF:=fun ls i=>(s.drop i=ls)/\dK s eq ls i=some R) (Of:=fun _ i=>[ff cu 54 l c s]) (Gf:=fun _ i=>[(0,my l c s),(1,(fL aU Jf qd (fun(x:(List ac)×(List ac))=>eq x.1 x.2))),(5,bD (i:Int))]) (fun i h=>?_) (fun e tl ih i h=>?_) (s.drop (1)) 1 ⟨J,h⟩) (bf J)
  ·obtain⟨V,h⟩:=h
   exact cU<|aE<|Q J<|Q J<|T (fO eK (.head _) (Y J))<|kw J<|bB<|pr (Y J) (KG V)<|d7<|aH<|aH<|cF<|ap<|ax J<|aM J<|so h▸pt J (oi l c) J J (fun _ _ h=>h)
  ·obtain⟨V,h⟩:=h
   refine cU<|aE<|Q J<|Q J<|T (fO eK (.head _) (Y J))<|kw J<|bB<|pq (Y J) (Iy V)<|dZ<|aA<|am<|aA<|ci h fun e1 q_e1 h=>ci h fun r q_r h=>?_
   refine iQ (ts:=[_,_,_,_,_,_,_,_,_,_,_]) mixed J J
    ⟨dc J J,
    ⟨dc J J,
    ⟨dc J J,
    ⟨cM 19 1 20 2 J J J (cn eK cP (.head _) (Y J) (Y J) (cD V)),
    ⟨cT 21 3 J J (eE (r:=cu) (i:=(i:Int)) (foff:=0) cP J J bz J (.head _) (cD V) (Y J)),
    ⟨dc J J,
    ⟨dc J J,
    ⟨cT 24 6 J J (dX (Y J) hI),
    ⟨cM 23 5 25 7 J J J (cn eK cP (.head _) (Y J) (Y J) q_e1),
    ⟨cT 26 8 J J (eE (r:=cu) (i:=(IntKind.i64.wrap ((i:Int)-(1:Int)))) (foff:=0) cP J J bz J (.head _) q_e1 (Y J)),
    ⟨JQ 18 0 22 4 27 9 J J J J (jV (args:=aa3) (res:=Nm) (f:=(fun(x:(List ac)×(List ac))=>eq x.1 x.2)) (x:=((e,e1):(List ac)×(List ac))) (Y J) q_r ⟨(Y J),(Y J),O⟩),
    O⟩⟩⟩⟩⟩⟩⟩⟩⟩⟩⟩ ?_
   refine ap<|gp h J (fun h=>?_) (fun h=>?_)
   ·refine ax J<|Q J<|ci h fun y q_y h=>T (qq eK cP J (.head _) (Y J) (Y J) q_y)<|o5 (.head _) q_y fun hv=>aC J<|aE<|bh<|bB<|am<|bA ?_;refine aD (Ez (aF:=fun k1 i1 s1 k=>(y.length-i1=k1)/\da eq i y k1 i1 s1 k=some R) (Of:=fun _ i1 s1 k=>[ff cu 54 l c s1]) (Gf:=fun _ i1 s1 k=>[(0,my l c s1),(1,(fL aU Jf qd (fun(x:(List ac)×(List ac))=>eq x.1 x.2))),(5,bD k),(6,tV (qU 1 l c (i:Int).toNat y.length)),(7,bD (i1:Int))]) (fun i1 s1 k h=>?_) (fun k2 ih1 i1 s1 k h=>?_) (y.length-1) 1 s (i:Int) ⟨J,h⟩) (bf J)
    ·obtain⟨hx1,h⟩:=h
     refine cU<|aE<|Q J<|Q J<|T (Gx eK hv.1 (Y J))<|kw J<|bB<|pr (Y J) (TK hx1)<|d7<|aH<|aH<|cF<|ap<|ax J<|Q J<|ci h fun y1 q_y1 h=>T (qq eK cP J (.head _) (Y J) (Y J) q_y1)<|o5 (.head _) q_y1 fun hv1=>ci h fun cl q_cl h=>?_;exact KQ cP J J eK (fun _=>⟨none,0,J,fa _,lG _,.inl J⟩) J q_y1 (Y J) (so q_cl)<|g9 (Bv q_y1 (so q_cl)) 0 J<|g9 (Bv q_y1 (so q_cl)) 59 J<|bB<|ax J<|Q J<|ci h fun y2 q_y2 h=>T (mj eK cP J (.head _) (Y J) (Y J) q_y2)<|xJ q_y2<|aM J<|bT<|af<|bT<|so h▸pt J (oi l c) J J (fun _ _ h=>h)
    ·obtain⟨hx1,h⟩:=h
     refine cU<|aE<|Q J<|Q J<|T (Gx eK hv.1 (Y J))<|kw J<|bB<|pq (Y J) (TJ hx1)<|dZ<|aA<|am<|aA<|ci h fun e3 q_e3 h=>ci h fun e4 q_e4 h=>ci h fun r1 q_r1 h=>?_
     refine iQ (ts:=[_,_,_,_,_,_,_,_,_,_,_,_]) mixed J J
      ⟨dc J J,
      ⟨dc J J,
      ⟨dc J J,
      ⟨cM 39 1 40 2 J J J (pG eK cP J (.head _) (vN q_y) (Y J) (Y J) q_e3),
      ⟨cT 41 3 J J (eE (r:=cu) (i:=((i:Int)+(i1:Int))) (foff:=0) cP J J bz J (.head _) (t6 q_e3).2.2 (Y J)),
      ⟨dc J J,
      ⟨dc J J,
      ⟨cT 44 6 J J (dX (Y J) hI),
      ⟨cM 43 5 45 7 J J J (pG eK cP J (.head _) (vN q_y) (Y J) (Y J) q_e4),
      ⟨cT 46 8 J J (eE (r:=cu) (i:=((i:Int)+(IntKind.i64.wrap ((i1:Int)-(1:Int))))) (foff:=0) cP J J bz J (.head _) (t6 q_e4).2.2 (Y J)),
      ⟨JQ 38 0 42 4 47 9 J J J J (jV (args:=aa3) (res:=Nm) (f:=(fun(x:(List ac)×(List ac))=>eq x.1 x.2)) (x:=((e3,e4):(List ac)×(List ac))) (Y J) q_r1 ⟨(Y J),(Y J),O⟩),
      ⟨cT 48 10 J J (dY (Y J)),
      O⟩⟩⟩⟩⟩⟩⟩⟩⟩⟩⟩⟩ ?_
     refine ap<|gp h J (fun h=>?_) (fun h=>?_)
     ·refine ax J<|Q J<|Q J<|Q J<|ci h fun e5 q_e5 h=>T (pG eK cP J (.head _) (vN q_y) (Y J) (Y J) q_e5)<|T (eE (r:=cu) (i:=((i:Int)+(i1:Int))) (foff:=0) cP J J bz J (.head _) (t6 q_e5).2.2 (Y J))<|ci h fun e6 q_e6 h=>T (cn eK cP (.head _) (Y J) (Y J) q_e6)<|ci h fun st q_st h=>sD cP J ah J q_e6 (so q_st) (Y J) (Y J)<|g9 (li (so q_st)) 0 J<|g9 (li (so q_st)) 50 J<|bB<|au<|Q J<|T (eG (Y J) hI)<|dC J<|aY<|ay<|ap ?_;refine au<|Q J<|T (ut (Ma hx1 (XK hv.2)) (Y J) hI)<|dC J<|aY ?_;exact aR (aD (ih1 (i1+1) st (IntKind.i64.wrap (k+(1:Int))) ⟨L0 hx1,h⟩) (bf J))
     ·refine bc<|ay<|ap<|au<|Q J<|T (ut (Ma hx1 (XK hv.2)) (Y J) hI)<|dC J<|aY ?_;exact aR (aD (ih1 (i1+1) s1 k ⟨L0 hx1,h⟩) (bf J))
   ·refine bc<|lH V hN J ?_;exact aR (aD (ih (i+1) ⟨cH V,h⟩) (bf J))

def aca l{R}(h:vx l=some R):bY aU 49 [cr (cu) l] (tT [cr (cu) R.1,bD R.2]):=by
 refine co Tryz.func49 J<|Z<|dO (cu)<|bh<|bB<|aE<|Q J<|T (aI (r:=ei) (ys:=[l]) (xs:=[.tmp 5]) lr gb J J J J J ⟨(Y J),O⟩)<|bS h acR (QK _) (bj J) fun r h=>aC J<|ax J<|eN J<|bE h J (fun h=>?_) (fun h=>?_)
 ·exact ax J<|dO (cu)<|aM J<|af<|so h▸bH J J J
 ·refine dZ<|ax J<|lI h aeb (R4 _) (bj J) fun r1 h l1 c=>ci h fun r2 q_r2 h=>Ex [ff cu 54 l1 c r1] _ J agi (adJ l1 c _ _ q_r2) ⟨(Y J),(CU ad8 fun x y h=>VJ _ _ h),O⟩ J fun i=>?_;refine(show RG _ _ _ _ [_] ((13,my (i.h 0).1 (i.h 0).2 r2)::_)from ?_);exact dC J<|cd<|dU<|bN 2 J<|bN 13 J<|dQ 2 J<|aG<|so h▸bH J J J

def adS(b:Nat)(ix:OI) r n{R}(h:j7 r n=some R):ea aU 27 [tV (ba b 0),tD aW n] (lM b r ix) (fun _:OI=>tT [cr (cu) R.1,bD R.2]) (fun _=>(lM b r ix)):=by
 refine ea.of Tryz.func27 J J J fun w0 S0=>?_;refine(show CG _ _ _ [bx (rH hX [(1,bw (ix.h 0).1 (ix.h 0).2 r.rows.length),(2,bw (ix.h 1).1 (ix.h 1).2 r.width.length)]) 65 b r,gO ei 32 (ix.h 0).1 (ix.h 0).2 r.rows,gO cI 3 (ix.h 1).1 (ix.h 1).2 r.width] _ from ?_);refine Z<|bO J<|dO (cu)<|bh<|bB<|aA<|ci h fun e q_e h=>ci h fun r1 q_r1 h=>?_
 refine iQ (ts:=[_,_,_,_,_,_,_,_,_,_,_,_,_]) mixed J J
  ⟨dc J J,
  ⟨cT 6 0 J J (ee (Y J)),
  ⟨cT 7 1 J J (tp 1 ub J J J),
  ⟨cT 8 2 J J (eD q6 J (.head _) (.tail _ (.head _)) (Y J)),
  ⟨jH 3 J J (ic iO de J J),
  ⟨dh 4 cj J J,
  ⟨cM 9 3 11 5 J J J (bm lr gb J (km (Y J)) (Y J) q_e),
  ⟨dh 6 gb J J,
  ⟨cT 13 7 J J (bo agL (aca _ q_r1) ⟨(Y J),O⟩),
  ⟨cT 14 8 J J (vo J J),
  ⟨cT 14 8 J J (vo J J),
  ⟨cT 15 9 J J (sE J),
  ⟨cT 16 10 J J (sE J),
  O⟩⟩⟩⟩⟩⟩⟩⟩⟩⟩⟩⟩⟩ ?_
 exact ap<|fD<|aP<|aP<|aP<|so h▸fS (ts:=[cr (cu) r1.1,bD r1.2]) (rvs:=[.tmp 4,.tmp 5]) J J ⟨aN J,aN J,O⟩ sF J J

def X1 n{R}(h:jD n=some R):fR aU 99 [tV (.slice none 0 0),bD n] false cu 54 R:=by
 refine fR.of Tryz.func99 J J J fun w0 S0=>Z<|bQ false cu 54<|T (bp qa)<|bB ?_;refine yF (aF:=kE n=some R) (Of:=[]) (Gf:=[(0,tV (.slice none 0 0)),(1,bD n)]) (fun h=>?_) (fun h2=>?_)
 ·skip
  refine vY (aF:=fun s l c=>kD s=some R) (Of:=fun s l c=>[ff cu 54 l c s]) (Gf:=fun s l c=>[(0,my l c s)]) (fun s l c h=>?_) (fun K1=>?_)
  ·skip
   exact ax J<|aM J<|so h▸fY J J
  ·skip
   refine ax J<|Q J<|T (vS eK (Y J))<|Q J<|T (vR eK (Y J))<|T (dX (Y J) (Y J))<|T (dX (Y J) (Y J))<|aC J<|ax J<|T (dy (Y J) hI)<|bE h J (fun h=>?_) (fun h=>?_)
   ·refine au<|Q J<|Q J<|T (vS eK (Y J))<|T (AI eK cP (Y J) (Y J))<|Q J<|ci h fun u q_u h=>ci h fun mk q_mk h=>C3 (AX (r:=cu) (x:=[]) cP J J J J eK mK (fun _=>⟨none,0,J,fa _,lG _,.inl J⟩) (Y J) (Y J) (Ib q_u) q_mk) J fun i=>Q J<|T (vR eK (Y J))<|ci h fun y q_y h=>T (mj eK cP J (.head _) (Y J) (Y J) q_y)<|xJ q_y<|dC J<|aY ?_;exact ce (K1 y (i.h 0).1 (i.h 0).2 h) (bf J)
   ·refine bc<|Ja false cu 54 ?_;exact ce (K1 yN none 0 h) (bf J)
 ·skip
  refine ax J<|T (du (Y J) hI)<|bE h J (fun h=>?_) (fun h=>?_)
  ·refine au ?_;exact(nn h).elim
  ·refine bc<|aG ?_;exact ce (h2 h) (bf J)
def X9 slices{R}(h:gy slices=some R):fR aU 50 [cr (ei) slices] false cu 54 R:=by
 refine fR.of Tryz.func50 J J J fun w0 S0=>Z<|bQ false cu 54<|T (bp qa)<|bB<|Z<|bh<|bB<|aE<|Q J<|ck lr J<|T (cv hI)<|bB<|am<|aZ (k:=9) J fun hN=>bA<|mI ?_;refine aD (ol (aF:=fun ls i size=>(slices.drop i=ls)/\ii slices ls size=some R) (Of:=fun _ i size=>[]) (Gf:=fun _ i size=>[(0,cr (ei) slices),(3,bD size),(9,cr (ei) slices),(10,kP slices),(11,bD (i:Int))]) (fun i size h=>?_) (fun e tl ih i size h=>?_) slices 0 (0:Int) ⟨J,h⟩) (bf J)
 ·obtain⟨V,h⟩:=h
  refine eY V J<|ap<|ax J<|lI h agh (X1 _) ⟨hV,(Y J),O⟩ fun r h l c=>aC J<|aE ?_;refine Q J<|ck lr J<|T (cv hI)<|bB<|am<|aZ (k:=25) J fun hN1=>bA ?_;refine aD (iR (aF:=fun ls1 i1 newslice l1 c1=>(slices.drop i1=ls1)/\ig ls1 newslice=some R) (Of:=fun _ i1 newslice l1 c1=>[ff cu 54 l1 c1 newslice]) (Gf:=fun _ i1 newslice l1 c1=>[(6,my l1 c1 newslice),(25,cr (ei) slices),(26,kP slices),(27,bD (i1:Int))]) (fun i1 newslice l1 c1 h=>?_) (fun e1 tl1 ih1 i1 newslice l1 c1 h=>?_) slices 0 r l c ⟨J,h⟩) (bf J)
  ·obtain⟨hx1,h⟩:=h
   exact eY hx1 J<|ap<|ax J<|aM J<|so h▸fY J J
  ·obtain⟨hx1,h⟩:=h
   refine eX hx1 J<|aA<|am<|Z<|cW lr gb J (cD hx1)<|aC J<|au<|Q J<|Q J<|ci h fun newslice1 q_newslice1 h=>bW cP J J J J eK J J (Y J) (Y J) q_newslice1 fun l2 c2=>?_;refine dC J<|aY<|dR hx1 hN1 J ?_;exact aR (aD (ih1 (i1+1) newslice1 l2 c2 ⟨cH hx1,h⟩) (bf J))
 ·obtain⟨V,h⟩:=h
  refine eX V J<|aA<|am<|Z<|cW lr gb J (cD V)<|aC J<|ax J<|Q J<|ck eK J ?_;refine T (eG (Y J) (Y J))<|aC J<|ax J<|T (du (Y J) hI)<|bE h J (fun h=>?_) (fun h=>?_)
  ·refine au ?_;exact(nn h).elim
  ·refine bc<|dR V hN J ?_;exact aR (aD (ih (i+1) (IntKind.i64.wrap (size+(e.length:Int))) ⟨cH V,h⟩) (bf J))
def ab9 slices{R}(h:gy slices=some R):bY aU 50 [cr (ei) slices] (cr (cu) R):=(X9 _ h).spec

def adR(b:Nat)(ix:OI) r n{R}(h:mu r n=some R):ea aU 28 [tV (ba b 0),tD aW n] (lM b r ix) (fun _:OI=>tT [cr (cu) R.1,bD R.2]) (fun _=>(lM b r ix)):=by
 refine ea.of Tryz.func28 J J J fun w0 S0=>?_;refine(show CG _ _ _ [bx (rH hX [(1,bw (ix.h 0).1 (ix.h 0).2 r.rows.length),(2,bw (ix.h 1).1 (ix.h 1).2 r.width.length)]) 65 b r,gO ei 32 (ix.h 0).1 (ix.h 0).2 r.rows,gO cI 3 (ix.h 1).1 (ix.h 1).2 r.width] _ from ?_);refine Z<|bO J<|dO (cu)<|bh<|bB<|aA<|ci h fun e q_e h=>ci h fun e1 q_e1 h=>ci h fun r1 q_r1 h=>?_
 refine iQ (ts:=[_,_,_,_,_,_,_,_,_,_,_,_,_,_,_,_,_,_,_,_]) mixed J J
  ⟨dc J J,
  ⟨cT 6 0 J J (ee (Y J)),
  ⟨cT 7 1 J J (tp 1 ub J J J),
  ⟨cT 8 2 J J (eD q6 J (.head _) (.tail _ (.head _)) (Y J)),
  ⟨jH 3 J J (ic iO de J J),
  ⟨dh 4 cj J J,
  ⟨cM 9 3 11 5 J J J (bm lr gb J (km (Y J)) (Y J) q_e),
  ⟨dh 6 gb J J,
  ⟨dc J J,
  ⟨cT 14 8 J J (ee (Y J)),
  ⟨cT 15 9 J J (tp 1 ub J J J),
  ⟨cT 16 10 J J (eD q6 J (.head _) (.tail _ (.head _)) (Y J)),
  ⟨jH 3 J J (ic mL fW J J),
  ⟨dh 12 cj J J,
  ⟨cM 17 11 19 13 J J J (bm lr gb J (km (Y J)) (Y J) q_e1),
  ⟨dh 14 gb J J,
  ⟨cM 13 7 21 15 J J J (aI (r:=ei) (ys:=[e,e1]) (xs:=[.tmp 13,.tmp 21]) lr gb J J J J J ⟨(Y J),(Y J),O⟩),
  ⟨cT 22 16 J J (bo agK (ab9 _ q_r1) ⟨(Y J),O⟩),
  ⟨cT 23 17 J J (sE J),
  ⟨PI J (Z2),
  O⟩⟩⟩⟩⟩⟩⟩⟩⟩⟩⟩⟩⟩⟩⟩⟩⟩⟩⟩⟩ ?_
 exact ap<|fD<|aP<|aP<|aP<|so h▸fS (ts:=[cr (cu) r1,bD 0]) (rvs:=[.tmp 4,.tmp 5]) J J ⟨aN J,aN J,O⟩ sF J J

def Y5 order a1 b{R}(h:qw order a1 b=some R):bY aU 165 [cr (ae) a1,cr (ae) b,bF (f9 gU) order] (bD R):=by
 refine co Tryz.func165 J<|Z<|bh<|bB<|aE<|bn Cy J<|ck xu J<|T (cv hI)<|bB<|am<|aZ (k:=9) J fun hN=>bA ?_;refine aD (eI (aF:=fun ls i=>(order.drop i=ls)/\lc a1 b ls=some R) (Of:=fun _ i=>[]) (Gf:=fun _ i=>[(0,cr (ae) a1),(1,cr (ae) b),(9,cr (gU) order),(10,kP order),(11,bD (i:Int))]) (fun i h=>?_) (fun e tl ih i h=>?_) order 0 ⟨J,h⟩) (bf J)
 ·obtain⟨V,h⟩:=h
  exact eY V J<|ap<|ax J<|Q J<|bS h aaP (Sy _ _) (bj J) fun r h=>aM J<|so h▸av J J
 ·obtain⟨V,h⟩:=h
  refine eX V J<|aA<|am<|Z<|cW xu zF J (cD V)<|aQ zF aa0 J fun b1=>be zF ah J<|aV 7 J<|bB<|aA<|ci h fun e1 q_e1 h=>ci h fun e2 q_e2 h=>?_;refine ci h fun r1 q_r1 h=>?_
  refine iQ (ts:=[_,_,_,_,_,_,_,_,_,_,_,_]) mixed J J
   ⟨dc J J,
   ⟨jH 7 J J (ic xm uS J J),
   ⟨dh 1 cj J J,
   ⟨cM 15 0 17 2 J J J (zW nD an J J J q_e1),
   ⟨dh 3 an J J,
   ⟨dc J J,
   ⟨jH 7 J J (ic xm uS J J),
   ⟨dh 6 cj J J,
   ⟨cM 20 5 22 7 J J J (zW nD an J J J q_e2),
   ⟨dh 8 an J J,
   ⟨cM 19 4 24 9 J J J (bo acO (QI _ _ q_r1) ⟨(Y J),(Y J),O⟩),
   ⟨cT 25 10 J J (sE J),
   O⟩⟩⟩⟩⟩⟩⟩⟩⟩⟩⟩⟩ ?_
  refine ap ?_;refine fi (aF:=fun n=>qv (lc a1 b tl) n=some R) (Of:=fun n=>[]) (Gf:=fun n=>[(0,cr (ae) a1),(1,cr (ae) b),(8,bD n),(9,cr (gU) order),(10,kP order),(11,bD (i:Int))]) (fun n h=>?_) (fun h2=>?_)
  ·skip
   refine ax J<|eN J<|bE h J (fun h=>?_) (fun h=>?_)
   ·exact ax J<|aM J<|bT<|af<|bT<|so h▸av J J
   ·refine bc<|dR V hN J ?_;exact aR (aD (ih (i+1) ⟨cH V,h⟩) (bf J))
  ·skip
   refine Z<|bg RZ OR zZ J<|bE h J (fun h=>?_) (fun h=>?_)
   ·refine au<|Q J<|T (LQ (Y J))<|dC J<|aY ?_;exact ce (h2 (IntKind.i64.wrap (0-r1)) h) (bf J)
   ·refine bc ?_;exact ce (h2 r1 h) (bf J)

def Zv order{R}(h:Fb order=some R):bY aU 100 [cr (gU) order] ((fL aU Jf BM (fun(x:(List ac)×(List ac))=>R x.1 x.2))):=by
 exact co Tryz.func100 J<|Z<|bO J<|T (bp hV)<|bB<|Z<|T ((show cz _ _ _ _ ((fL aU Jf BM (fun(x:(List ac)×(List ac))=>(qw order) x.1 x.2)))from kg (cts:=[bF (f9 gU) order]) (caps:=[.tmp 1]) ae9 ⟨(Y J),O⟩ (fun x y h=>Y5 _ _ _ h)))<|aM J<|so h▸av J J

def X8 rows order limit{R}(h:rr rows order limit=some R):fR aU 51 [cr (cu) rows,cr (gU) order,bD limit] false cu 54 R:=by
 refine fR.of Tryz.func51 J J J fun w0 S0=>Z<|bQ false cu 54<|T (bp qa)<|bB<|Z<|bQ false cu 54<|T (bp qa)<|bB<|aE<|Q J<|ck eK J<|T (cv hI)<|bB<|am<|aZ (k:=10) J fun hN=>bA ?_;refine fh<|mI ?_;refine aD (iR (aF:=fun ls i out l c=>(rows.drop i=ls)/\mt order limit ls out=some R) (Of:=fun _ i out l c=>[ff cu 54 l c out]) (Gf:=fun _ i out l c=>[(1,cr (gU) order),(2,bD limit),(7,my l c out),(10,cr (cu) rows),(11,kP rows),(12,bD (i:Int))]) (fun i out l c h=>?_) (fun e tl ih i out l c h=>?_) rows 0 yN none 0 ⟨J,h⟩) (bf J)
 ·obtain⟨V,h⟩:=h
  refine eY V J<|ap<|ax J<|Q J<|bS h afQ (Zv _) (bj J) fun r h=>ci h fun u9 q_srt h=>?_;refine IT (n:=out.length) A4 ?_ acQ ?_ q_srt ?_ ?_ ?_ ?_ ?_
  ·rfl
  ·rfl
  ·exact(Y J)
  ·rfl
  ·exact(Y J)
  ·rfl
  intro hl
  refine rt hl 7 J<|rt hl 22 J<|bB ?_;refine vY (aF:=fun out1 l1 c1=>qP out1=some R) (Of:=fun out1 l1 c1=>[ff cu 54 l1 c1 out1]) (Gf:=fun out1 l1 c1=>[(7,my l1 c1 out1)]) (fun out1 l1 c1 h=>?_) (fun h2=>?_)
  ·skip
   exact ax J<|aM J<|so h▸fY J J
  ·skip
   refine ax J<|T (eF (Y J) hI)<|Q J<|aw J (cG J)<|aw J (cG J)<|aw J (fun H=>fO eK (.head _) (bG J H))<|aw J (fun H=>du (bG J H) (bG J H))<|dv J<|bE h J (fun h=>?_) (fun h=>?_)
   ·refine au<|Q J<|Q J<|ci h fun y q_y h=>T (mj eK cP J (.head _) (Y J) (Y J) q_y)<|xJ q_y<|dC J<|aY ?_;exact ce (h2 y l c h) (bf J)
   ·refine bc ?_;exact ce (h2 u9 l c h) (bf J)
 ·obtain⟨V,h⟩:=h
  refine eX V J<|aA<|am<|Z<|cW eK cP J (cD V)<|aC J<|au<|Q J<|Q J<|lI h acT (Mr _) (bj J) fun r1 h l2 c2=>?_;refine gm<|dn 18 J<|T (aI (r:=cu) (ys:=[r1]) (xs:=[.tmp 18]) eK cP J J J J J ⟨(km (Y J)),O⟩)<|bu<|ci h fun out2 q_out2 h=>bW cP J J J J eK J J (Y J) (Y J) q_out2 fun l3 c3=>dC J<|aY<|dR V hN J<|bK<|aG ?_;exact aR (aD (ih (i+1) out2 l3 c3 ⟨cH V,h⟩) (bf J))
def ab8 rows order limit{R}(h:rr rows order limit=some R):bY aU 51 [cr (cu) rows,cr (gU) order,bD limit] (cr (cu) R):=(X8 _ _ _ h).spec

def adQ(b:Nat)(ix:OI) r n{R}(h:mv r n=some R):ea aU 29 [tV (ba b 0),tD aW n] (lM b r ix) (fun _:OI=>tT [cr (cu) R.1,bD R.2]) (fun _=>(lM b r ix)):=by
 refine ea.of Tryz.func29 J J J fun w0 S0=>?_;refine(show CG _ _ _ [bx (rH hX [(1,bw (ix.h 0).1 (ix.h 0).2 r.rows.length),(2,bw (ix.h 1).1 (ix.h 1).2 r.width.length)]) 65 b r,gO ei 32 (ix.h 0).1 (ix.h 0).2 r.rows,gO cI 3 (ix.h 1).1 (ix.h 1).2 r.width] _ from ?_);refine Z<|bO J<|dO (cu)<|bh<|bB<|aA<|ci h fun e q_e h=>ci h fun r1 q_r1 h=>?_
 refine iQ (ts:=[_,_,_,_,_,_,_,_,_,_,_,_,_,_,_]) mixed J J
  ⟨dc J J,
  ⟨cT 6 0 J J (ee (Y J)),
  ⟨cT 7 1 J J (tp 1 ub J J J),
  ⟨cT 8 2 J J (eD q6 J (.head _) (.tail _ (.head _)) (Y J)),
  ⟨jH 3 J J (ic iO de J J),
  ⟨dh 4 cj J J,
  ⟨cM 9 3 11 5 J J J (bm lr gb J (km (Y J)) (Y J) q_e),
  ⟨dh 6 gb J J,
  ⟨jH 3 J J (ic pX kh J J),
  ⟨dh 8 Cy J J,
  ⟨jH 3 J J (ic vE oy J J),
  ⟨dh 10 cj J J,
  ⟨JQ 13 7 15 9 17 11 J J J J (bo agJ (ab8 _ _ _ q_r1) ⟨(Y J),(Y J),(Y J),O⟩),
  ⟨cT 18 12 J J (sE J),
  ⟨PI J (Z2),
  O⟩⟩⟩⟩⟩⟩⟩⟩⟩⟩⟩⟩⟩⟩⟩ ?_
 exact ap<|fD<|aP<|aP<|aP<|so h▸fS (ts:=[cr (cu) r1,bD 0]) (rvs:=[.tmp 4,.tmp 5]) J J ⟨aN J,aN J,O⟩ sF J J

def acl l{R}(h:y5 l=some R):bY aU 30 [cr (cu) l] (tT [cr (cu) R.1,bD R.2]):=by
 refine co Tryz.func30 J<|Z<|dO (cu)<|bh<|bB<|aE<|Q J<|T (aI (r:=ei) (ys:=[l]) (xs:=[.tmp 5]) lr gb J J J J J ⟨(Y J),O⟩)<|bS h acR (QK _) (bj J) fun r h=>aC J<|ax J<|eN J<|bE h J (fun h=>?_) (fun h=>?_)
 ·exact ax J<|dO (cu)<|aM J<|af<|so h▸bH J J J
 ·exact dZ<|ax J<|lI h aeb (R4 _) (bj J) fun r1 h l1 c=>dC J<|cd<|dU<|bN 2 J<|bN 12 J<|dQ 2 J<|aG<|so h▸bH J J J

def V0 s{R}(h:fK s=some R):fR aU 102 [cr (gU) s] false gU 154 R:=by
 refine fR.of Tryz.func102 J J J fun w0 S0=>Z<|bQ false gU 154<|T (bp qa)<|bB<|aE<|Q J<|wI xu (Y J) J fun isnil hisnil=>bB<|rJ (Y J) (fun hc=>?_) (fun hc=>?_)
 ·have V:=hisnil hc
  have h:some ([]:List jG)=some R:=by simpa [fK,app,V] using h
  exact Z<|bQ false gU 154<|T (bp qa)<|cK<|af<|so h▸fY J J
 ·exact dZ<|Z<|mo (r:=gU) (ys:=([]:List jG)) (xs:=[]) xu zF J J J J J trivial J fun l c=>Q J<|ci h fun x q_x h=>bW zF J J J J xu J J (Y J) (Y J) q_x fun l1 c1=>aM J<|so h▸fY J J
def Zu s{R}(h:fK s=some R):bY aU 102 [cr (gU) s] (cr (gU) R):=(V0 _ h).spec

def OZ s{R}(h:df s=some R):fR aU 103 [cr (cx) s] false cx 81 R:=by
 refine fR.of Tryz.func103 J J J fun w0 S0=>Z<|bQ false cx 81<|T (bp qa)<|bB<|aE<|Q J<|wI qC (Y J) J fun isnil hisnil=>bB<|rJ (Y J) (fun hc=>?_) (fun hc=>?_)
 ·have V:=hisnil hc
  have h:some ([]:List bZ)=some R:=by simpa [df,app,V] using h
  exact Z<|bQ false cx 81<|T (bp qa)<|cK<|af<|so h▸fY J J
 ·exact dZ<|Z<|mo (r:=cx) (ys:=([]:List bZ)) (xs:=[]) qC nw J J J J J trivial J fun l c=>Q J<|ci h fun x q_x h=>bW nw J J J J qC J J (Y J) (Y J) q_x fun l1 c1=>aM J<|so h▸fY J J
def SD s{R}(h:df s=some R):bY aU 103 [cr (cx) s] (cr (cx) R):=(OZ _ h).spec

end Go.Proofs.YtpgjgkdpeagjbaaGreatDoor

