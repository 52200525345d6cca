/- du of this claim: P5. -/
import Derived.Test.YthbdkceckjihgaaGreatDoorBbT
import Derived.Test.YthbdkceckjihgaaGreatDoorBbP4
set_option linter.all false
namespace Go.Proofs.YthbdkceckjihgaaGreatDoor
open Go
set_option maxRecDepth 100000

def VX s v{R}(h:mC s v=some R):cI aZ 179 [pE s,bd v] (bd R):=by
 refine dm Tryz.func179 I<|aY<|bG<|bO<|aT<|aX I<|bW fH I<|Q (bC hI)<|bO<|ai<|aO (k:=6) I fun hN=>bp ?_;refine ay (dz (h2:=fun ls i=>(s.drop i=ls)/\iT v ls i=some R) (Of:=fun _ i=>[]) (Gf:=fun _ i=>[(0,pE s),(1,bd v),(7,iK s),(8,bd (i:Int))]) (fun i h=>?_) (fun e tl ih i h=>?_) s 0 ⟨I,h⟩) (bb I)
 ·obtain⟨A,h⟩:=h
  exact dh A I<|av<|aY<|dJ<|so h▸aq I I
 ·obtain⟨A,h⟩:=h
  refine dg A I<|aD<|ai<|aH I<|bj I<|aH I<|aX I<|aX I<|uC fH cF I (df A) ?_;refine cC cF I<|Q (mg (M I) (M I))<|bY h I (fun h=>?_) (fun h=>?_)
  ·exact aH I<|be I<|bZ<|af<|bZ<|so h▸aq I I
  ·refine bk<|cR A hN I ?_;exact aS (ay (ih (i+1) ⟨cM A,h⟩) (bb I))

def VK s f{R}(h:jp s f=some R):cI aZ 215 [fm (aN) s,(gV aZ UG yE (fun(x:f9)=>f x))] (bd R):=by
 refine dm Tryz.func215 I<|aY<|bG<|bO<|aT<|aX I<|bW sE I<|Q (bC hI)<|bO<|ai<|aO (k:=6) I fun hN=>bp ?_;refine ay (dz (h2:=fun ls i=>(s.drop i=ls)/\eA f ls i=some R) (Of:=fun _ i=>[]) (Gf:=fun _ i=>[(0,fm (aN) s),(1,(gV aZ UG yE (fun(x:f9)=>f x))),(7,iK s),(8,bd (i:Int))]) (fun i h=>?_) (fun e tl ih i h=>?_) s 0 ⟨I,h⟩) (bb I)
 ·obtain⟨A,h⟩:=h
  exact dh A I<|av<|aY<|dJ<|so h▸aq I I
 ·obtain⟨A,h⟩:=h
  refine dg A I<|aD<|ai<|aH I<|bj I<|aH I<|aX I<|aX I<|uC sE p9 I (df A) ?_;refine cC p9 I<|cq h fun r q_r h=>Q (iE (args:=UG) (res:=F3) (f:=(fun(x:f9)=>f x)) (x:=((e):f9)) (M I) q_r ⟨(M I),d⟩)<|bY h I (fun h=>?_) (fun h=>?_)
  ·exact aH I<|be I<|bZ<|af<|bZ<|so h▸aq I I
  ·refine bk<|cR A hN I ?_;exact aS (ay (ih (i+1) ⟨cM A,h⟩) (bb I))

def Wo s1 s2{R}(h:jr s1 s2=some R):cI aZ 120 [fm (br) s1,fm (br) s2] (im R):=by
 refine dm Tryz.func120 I<|aY<|bw<|bO<|aT<|aX I<|bW mz I<|aX I<|bW mz I<|Q (dZ (M I) (M I))<|bY h I (fun h=>?_) (fun h=>?_)
 ·exact aY<|bw<|cw<|af<|so h▸aq I I
 ·refine gC<|aT<|aX I<|bW mz I<|Q (bC hI)<|bO<|ai<|aO (k:=11) I fun hN=>bp ?_;refine ay (dz (h2:=fun ls i=>(s1.drop i=ls)/\eB s2 ls i=some R) (Of:=fun _ i=>[]) (Gf:=fun _ i=>[(0,fm (br) s1),(1,fm (br) s2),(12,iK s1),(13,bd (i:Int))]) (fun i h=>?_) (fun e tl ih i h=>?_) s1 0 ⟨I,h⟩) (bb I)
  ·obtain⟨A,h⟩:=h
   exact dh A I<|av<|aY<|bw<|cw<|so h▸aq I I
  ·obtain⟨A,h⟩:=h
   refine dg A I<|aD<|ai<|aH I<|bj I<|aD<|cq h fun e1 q_e1 h=>?_
   refine eI (ts:=[_,_,_,_,_,_,_,_,_]) mixed I I
    ⟨f8 I I,
    ⟨f8 I I,
    ⟨fg 16 0 17 1 I I I (Cc mz eJ I I I (df A)),
    ⟨jX 2 eJ I I,
    ⟨f8 I I,
    ⟨f8 I I,
    ⟨fg 20 4 21 5 I I I (Cc mz eJ I I I q_e1),
    ⟨jX 6 eJ I I,
    ⟨fg 19 3 23 7 I I I (xT Xh (M I) (M I)),
    d⟩⟩⟩⟩⟩⟩⟩⟩⟩ ?_
   refine av<|mA h I (fun h=>?_) (fun h=>?_)
   ·exact aY<|bw<|cw<|bZ<|af<|bZ<|so h▸aq I I
   ·refine bk<|cR A hN I ?_;exact aS (ay (ih (i+1) ⟨cM A,h⟩) (bb I))

def Ei a1 b{R}(h:mt a1 b=some R):cI aZ 65 [H ac a1,H ac b] (im R):=by
 exact dm Tryz.func65 I<|aY<|cK I<|cK I<|bw<|bO<|aY<|ba j4 gn sv I<|ba j4 gn sv I<|eo h abC (Wo _ _) (dd I) fun r h=>be I<|so h▸aq I I

def VJ c p{R}(h:lO c p=some R):cI aZ 216 [H aN p,bt aN c] (im R):=by
 refine dm Tryz.func216 I<|aY<|cK I<|bw<|bO<|aY<|ba qd ll cF I<|ba qd ll cF I<|Q (mg (M I) (M I))<|aX I<|cq h fun t q_t h=>ap I (bR vG qy I I)<|ap I (bM bD I I)<|ap I (bR vG qy I I)<|ap I (bM bD I I) ?_
 obtain⟨r,h1t,h0t⟩:=og q_t
 have q_rg:=fun Y=>(h1t Y).1
 exact ap I (fun D=>bn RJ (Ei _ _ (q_rg D)) ⟨(bF I D),(bF I D),d⟩)<|Q (bJ (M I) (fun Y=>(bF I Y)) (fun Y=>(h1t Y).2) h0t)<|be I<|so h▸aq I I

set_option maxHeartbeats 4000000 in
def Y8(b:Nat)(ix:OI) s a1{R}(h:nv s a1=some R):ea aZ 180 [tV (an b 0),H aN a1] (dx b s ix) (fun _:OI=>tT [bd R.1,bd R.2.1]) (fun j=>dx b R.2.2 j):=by
 refine ea.of Tryz.func180 I I I fun w0 S0=>?_;refine(show CG _ _ _ [bx (rH aU (z10 ix s)) 127 b s,K aP 3 (ix.h 0).1 (ix.h 0).2 s.out.Tables,K aw 71 (ix.h 1).1 (ix.h 1).2 s.out.Joins,K aP 3 (ix.h 2).1 (ix.h 2).2 s.out.Keys,K aN 73 (ix.h 3).1 (ix.h 3).2 s.out.Aggs,K ac 62 (ix.h 4).1 (ix.h 4).2 s.out.Items,K aP 3 (ix.h 5).1 (ix.h 5).2 s.kinds,K aP 3 (ix.h 6).1 (ix.h 6).2 s.groups,ci mU ez (ix.h 7).2 none (ix.oss 0) s.called,ci ff ez (ix.h 8).2 none (ix.oss 1) s.alone,eQ (fun y:Int=>bd y) lg (ix.h 9).2 s.behind] _ from ?_);refine aY<|cK I<|bG<|bG<|bO<|aY<|bG<|bO ?_;refine ig (h2:=fun kind=>kV s a1 kind=some R) (Of:=fun kind=>[bx (rH aU (z10 ix s)) 127 b s,K aP 3 (ix.h 0).1 (ix.h 0).2 s.out.Tables,K aw 71 (ix.h 1).1 (ix.h 1).2 s.out.Joins,K aP 3 (ix.h 2).1 (ix.h 2).2 s.out.Keys,K aN 73 (ix.h 3).1 (ix.h 3).2 s.out.Aggs,K ac 62 (ix.h 4).1 (ix.h 4).2 s.out.Items,K aP 3 (ix.h 5).1 (ix.h 5).2 s.kinds,K aP 3 (ix.h 6).1 (ix.h 6).2 s.groups,ci mU ez (ix.h 7).2 none (ix.oss 0) s.called,ci ff ez (ix.h 8).2 none (ix.oss 1) s.alone,eQ (fun y:Int=>bd y) lg (ix.h 9).2 s.behind]) (Gf:=fun kind=>[(0,tV (an b 0)),(3,bt aN a1),(6,bd kind)]) (fun kind h=>?_) (fun ax=>?_)
 ·skip
  refine aH I<|Q (bl (M I))<|bv 10 gJ I<|bv 17 mR I<|Q (cP wM I (.head _) (.tail _ (.tail _ (.tail _ (.tail _ (.head _))))) (M I))<|Q ((show cE _ _ _ _ ((gV aZ UG yE (fun(x:f9)=>(lO a1) x)))from pf (cts:=[bt aN a1]) (caps:=[.tmp 3]) aaT ⟨(M I),d⟩ (fun x y h=>VJ _ _ h)))<|eo h aaU (VK _ _) ⟨(kB (M I)),(M I),d⟩ fun r h=>bj I ?_;refine vj (h2:=fun i ob ix1=>mJ i ob=some R) (Of:=fun i ob (ix1:OI)=>[bx (rH aU (z10 ix1 ob)) 127 b ob,K aP 3 (ix1.h 0).1 (ix1.h 0).2 ob.out.Tables,K aw 71 (ix1.h 1).1 (ix1.h 1).2 ob.out.Joins,K aP 3 (ix1.h 2).1 (ix1.h 2).2 ob.out.Keys,K aN 73 (ix1.h 3).1 (ix1.h 3).2 ob.out.Aggs,K ac 62 (ix1.h 4).1 (ix1.h 4).2 ob.out.Items,K aP 3 (ix1.h 5).1 (ix1.h 5).2 ob.kinds,K aP 3 (ix1.h 6).1 (ix1.h 6).2 ob.groups,ci mU ez (ix1.h 7).2 none (ix1.oss 0) ob.called,ci ff ez (ix1.h 8).2 none (ix1.oss 1) ob.alone,eQ (fun y:Int=>bd y) lg (ix1.h 9).2 ob.behind]) (Gf:=fun i ob ix1=>[(0,tV (an b 0)),(9,bd i)]) (fun i ob ix1 h=>?_) (fun K1=>?_)
  ·skip
   refine aT<|aX I<|Q (bl (M I))<|bv 10 gJ I<|bv 17 mR I<|Q (cP wM I (.head _) (.tail _ (.tail _ (.tail _ (.tail _ (.head _))))) (M I))<|Q (fN sE (kB (M I)))<|Q (fa (M I) hI)<|bY h I (fun h=>?_) (fun h=>?_)
   ·exact aY<|bG<|dJ<|af<|so h▸c0 (ts:=[bd 0,bd 228]) (rvs:=[.tmp 4,.tmp 5]) I I ⟨bE I,bE I,d⟩ ix1 I I
   ·exact gC<|aH I<|Q (bl (M I))<|bv 10 gJ I<|bv 16 rW I<|Q (cP fL I (.head _) (.tail _ (.tail _ (.tail _ (.head _)))) (M I))<|Q (fN fH (kB (M I)))<|aX I<|Q (fX (M I) (M I))<|gE I<|dJ<|so h▸c0 (ts:=[bd (IntKind.i64.wrap ((ob.out.Keys.length:Int)+i)),bd 0]) (rvs:=[.tmp 4,.tmp 5]) I I ⟨bE I,bE I,d⟩ ix1 I I
  ·skip
   refine aH I<|Q (eP (M I) hI)<|bY h I (fun h=>?_) (fun h=>?_)
   ·refine aH I<|Q (bl (M I))<|bv 10 gJ I<|bv 17 mR I<|Q (cP wM I (.head _) (.tail _ (.tail _ (.tail _ (.tail _ (.head _))))) (M I))<|Q (fN sE (kB (M I)))<|bj I<|cq h fun l7 q_l7 h=>cq h fun l8 q_l8 h=>?_
    refine ek 21 [tc (tV (an b 0)),tc (tV (an b 0)),tc (tV (an b 0)),tc (tV (an b 0)),tc (tV (an b 10)),tc (tV (an b 17)),tc (tO aN (ix.h 3).1 (ix.h 3).2 s.out.Aggs),tc (H aN a1),tc (fm (aN) ([a1])),([9],fun s=>tO aN ((s.getD 0 oF).h 0).1 ((s.getD 0 oF).h 0).2 l7),tc (tV (an b 0)),tc (tV (an b 0)),tc (tV (an b 23)),tc (tO aP (ix.h 6).1 (ix.h 6).2 s.groups),tc (bd kind),tc (pE ([kind])),([16],fun s=>tO aP ((s.getD 0 oF).h 0).1 ((s.getD 0 oF).h 0).2 l8),tc (tV (an b 0)),tc (tV (an b 10)),tc (tV (an b 17)),tc (tR)] [false,false,false,false,false,false,false,false,false,true,false,false,false,false,false,false,true,false,false,false,true] [fun _=>[bx (rH aU (z10 ix s)) 127 b s,K aP 3 (ix.h 0).1 (ix.h 0).2 s.out.Tables,K aw 71 (ix.h 1).1 (ix.h 1).2 s.out.Joins,K aP 3 (ix.h 2).1 (ix.h 2).2 s.out.Keys,K aN 73 (ix.h 3).1 (ix.h 3).2 s.out.Aggs,K ac 62 (ix.h 4).1 (ix.h 4).2 s.out.Items,K aP 3 (ix.h 5).1 (ix.h 5).2 s.kinds,K aP 3 (ix.h 6).1 (ix.h 6).2 s.groups,ci mU ez (ix.h 7).2 none (ix.oss 0) s.called,ci ff ez (ix.h 8).2 none (ix.oss 1) s.alone,eQ (fun y:Int=>bd y) lg (ix.h 9).2 s.behind],fun sg=>[K aN 73 ((sg 9).h 0).1 ((sg 9).h 0).2 l7,bx (rH aU (z10 ix s)) 127 b s,K aP 3 (ix.h 0).1 (ix.h 0).2 s.out.Tables,K aw 71 (ix.h 1).1 (ix.h 1).2 s.out.Joins,K aP 3 (ix.h 2).1 (ix.h 2).2 s.out.Keys,K ac 62 (ix.h 4).1 (ix.h 4).2 s.out.Items,K aP 3 (ix.h 5).1 (ix.h 5).2 s.kinds,K aP 3 (ix.h 6).1 (ix.h 6).2 s.groups,ci mU ez (ix.h 7).2 none (ix.oss 0) s.called,ci ff ez (ix.h 8).2 none (ix.oss 1) s.alone,eQ (fun y:Int=>bd y) lg (ix.h 9).2 s.behind],fun sg=>[K aP 3 ((sg 16).h 0).1 ((sg 16).h 0).2 l8,K aN 73 ((sg 9).h 0).1 ((sg 9).h 0).2 l7,bx (rH aU (z10 ix s)) 127 b s,K aP 3 (ix.h 0).1 (ix.h 0).2 s.out.Tables,K aw 71 (ix.h 1).1 (ix.h 1).2 s.out.Joins,K aP 3 (ix.h 2).1 (ix.h 2).2 s.out.Keys,K ac 62 (ix.h 4).1 (ix.h 4).2 s.out.Items,K aP 3 (ix.h 5).1 (ix.h 5).2 s.kinds,ci mU ez (ix.h 7).2 none (ix.oss 0) s.called,ci ff ez (ix.h 8).2 none (ix.oss 1) s.alone,eQ (fun y:Int=>bd y) lg (ix.h 9).2 s.behind],fun sg=>[bx (rH aU [(10,J (ix.h 0).1 (ix.h 0).2 s.out.Tables.length),(11,J (ix.h 1).1 (ix.h 1).2 s.out.Joins.length),(16,J (ix.h 2).1 (ix.h 2).2 s.out.Keys.length),(17,J ((sg 9).h 0).1 ((sg 9).h 0).2 l7.length),(18,J (ix.h 4).1 (ix.h 4).2 s.out.Items.length),(22,J (ix.h 5).1 (ix.h 5).2 s.kinds.length),(23,J (ix.h 6).1 (ix.h 6).2 s.groups.length),(19,aG (ix.h 7).2),(20,aG (ix.h 8).2),(21,aG (ix.h 9).2)]) 127 b ({s with out:=({s.out with Aggs:=l7}:aL)}:am),K aP 3 ((sg 16).h 0).1 ((sg 16).h 0).2 l8,K aN 73 ((sg 9).h 0).1 ((sg 9).h 0).2 l7,K aP 3 (ix.h 0).1 (ix.h 0).2 s.out.Tables,K aw 71 (ix.h 1).1 (ix.h 1).2 s.out.Joins,K aP 3 (ix.h 2).1 (ix.h 2).2 s.out.Keys,K ac 62 (ix.h 4).1 (ix.h 4).2 s.out.Items,K aP 3 (ix.h 5).1 (ix.h 5).2 s.kinds,ci mU ez (ix.h 7).2 none (ix.oss 0) s.called,ci ff ez (ix.h 8).2 none (ix.oss 1) s.alone,eQ (fun y:Int=>bd y) lg (ix.h 9).2 s.behind]] I mixed I I I I I
     ⟨⟨[⟨0,fun _=>tV (an b 0),none⟩],_,0,2,I,⟨(fun _=>I),d⟩,I,I,I,I,I,fun _ sg _ _=>aa I (gH I)⟩,
     ⟨⟨[⟨0,fun _=>tV (an b 0),none⟩],_,0,3,I,⟨(fun _=>I),d⟩,I,I,I,I,I,fun _ sg _ _=>aa I (gH I)⟩,
     ⟨⟨[⟨0,fun _=>tV (an b 0),none⟩],_,0,0,I,⟨(fun _=>I),d⟩,I,I,I,I,I,fun _ sg _ _=>aa I (gH I)⟩,
     ⟨⟨[⟨64,fun _=>tV (an b 0),some 2⟩],_,0,0,I,⟨(fun _=>I),d⟩,I,I,I,I,I,fun _ sg _ _=>aa I (bl (M I))⟩,
     ⟨⟨[⟨65,fun _=>tV (an b 0),some 3⟩],_,0,0,I,⟨(fun _=>I),d⟩,I,I,I,I,I,fun _ sg _ _=>aa I (lv 10 gJ I I I)⟩,
     ⟨⟨[⟨66,fun _=>tV (an b 10),some 4⟩],_,0,0,I,⟨(fun _=>I),d⟩,I,I,I,I,I,fun _ sg _ _=>aa I (lv 17 mR I I I)⟩,
     ⟨⟨[⟨67,fun _=>tV (an b 17),some 5⟩],_,0,0,I,⟨(fun _=>I),d⟩,I,I,I,I,I,fK (fun sg=>aa I (cP wM I (.head _) (.tail _ (.tail _ (.tail _ (.tail _ (.head _))))) (M I)))⟩,
     ⟨⟨[⟨3,fun _=>bt aN a1,none⟩],_,0,0,I,⟨(fun _=>I),d⟩,I,I,I,I,I,fun _ sg _ _=>aa I (qN p9 I I)⟩,
     ⟨⟨[⟨69,fun _=>H aN a1,some 7⟩],_,0,0,I,⟨(fun _=>I),d⟩,I,I,I,I,I,fun _ sg _ _=>aa I (a8 (r:=aN) (ys:=[a1]) (xs:=[.tmp 69]) sE p9 I I I I I ⟨(M I),d⟩)⟩,
     ⟨⟨[⟨68,fun _=>tO aN (ix.h 3).1 (ix.h 3).2 s.out.Aggs,some 6⟩,⟨70,fun _=>H (eO aN) ([a1]),some 8⟩],_,I,⟨(fun _=>I),(fun _=>I),d⟩,I,I,I,fun sg=>bS I (EffOK.fr4 (iw p9 I I I I sE I (M I) (M I) q_l7))⟩,
     ⟨⟨[⟨0,fun _=>tV (an b 0),none⟩],_,0,1,I,⟨(fun _=>I),d⟩,I,I,I,I,I,fun _ sg _ _=>aa I (gH I)⟩,
     ⟨⟨[⟨72,fun _=>tV (an b 0),some 10⟩],_,0,1,I,⟨(fun _=>I),d⟩,I,I,I,I,I,fun _ sg _ _=>aa I (bl (M I))⟩,
     ⟨⟨[⟨73,fun _=>tV (an b 0),some 11⟩],_,0,1,I,⟨(fun _=>I),d⟩,I,I,I,I,I,fun _ sg _ _=>aa I (lv 23 Ap I I I)⟩,
     ⟨⟨[⟨74,fun _=>tV (an b 23),some 12⟩],_,0,1,I,⟨(fun _=>I),d⟩,I,I,I,I,I,um (fun sg=>aa I (cP fL I (.head _) (.tail _ (.tail _ (.tail _ (.tail _ (.tail _ (.tail _ (.tail _ (.head _)))))))) (M I))) (fK (fun sg=>aa I (cP fL I (.tail _ (.head _)) (.tail _ (.tail _ (.tail _ (.tail _ (.tail _ (.tail _ (.tail _ (.head _)))))))) (M I))))⟩,
     ⟨⟨[⟨6,fun _=>H aP kind,none⟩],_,0,1,I,⟨(fun _=>I),d⟩,I,I,I,I,I,fun _ sg _ _=>aa I (gH I)⟩,
     ⟨⟨[⟨76,fun _=>H aP kind,some 14⟩],_,0,1,I,⟨(fun _=>I),d⟩,I,I,I,I,I,fun _ sg _ _=>aa I (a8 (r:=aP) (ys:=[kind]) (xs:=[.tmp 76]) fH cF I I I I I ⟨(M I),d⟩)⟩,
     ⟨⟨[⟨75,fun _=>tO aP (ix.h 6).1 (ix.h 6).2 s.groups,some 13⟩,⟨77,fun _=>H Dx ([kind]),some 15⟩],_,I,⟨(fun _=>I),(fun _=>I),d⟩,I,I,I,fun sg=>bS I (EffOK.fr7 (iw cF I I I I fH I (M I) (M I) q_l8))⟩,
     ⟨⟨[⟨62,fun _=>tV (an b 0),some 0⟩],_,2,2,I,⟨(fun _=>I),d⟩,I,I,I,I,I,fun _ sg _ _=>aa I (bl (M I))⟩,
     ⟨⟨[⟨79,fun _=>tV (an b 0),some 17⟩],_,2,2,I,⟨(fun _=>I),d⟩,I,I,I,I,I,fun _ sg _ _=>aa I (lv 10 gJ I I I)⟩,
     ⟨⟨[⟨80,fun _=>tV (an b 10),some 18⟩],_,2,2,I,⟨(fun _=>I),d⟩,I,I,I,I,I,fun _ sg _ _=>aa I (lv 17 mR I I I)⟩,
     ⟨⟨[⟨81,fun _=>tV (an b 17),some 19⟩,⟨71,fun sg=>tO aN ((sg 9).h 0).1 ((sg 9).h 0).2 l7,some 9⟩],_,I,⟨(fun _=>I),(fun _=>I),d⟩,I,I,I,fun sg=>bS I (EffOK.fr2 (ip (hs' :=[(10,J (ix.h 0).1 (ix.h 0).2 s.out.Tables.length),(11,J (ix.h 1).1 (ix.h 1).2 s.out.Joins.length),(16,J (ix.h 2).1 (ix.h 2).2 s.out.Keys.length),(17,J ((sg 9).h 0).1 ((sg 9).h 0).2 l7.length),(18,J (ix.h 4).1 (ix.h 4).2 s.out.Items.length),(22,J (ix.h 5).1 (ix.h 5).2 s.kinds.length),(23,J (ix.h 6).1 (ix.h 6).2 s.groups.length),(19,aG (ix.h 7).2),(20,aG (ix.h 8).2),(21,aG (ix.h 9).2)]) (u:=J ((sg 9).h 0).1 ((sg 9).h 0).2 l7.length) wM I I (gm iP mM Cz) I ⟨.inr ⟨I,I⟩,.inr ⟨I,I⟩,.inr ⟨I,I⟩,.inl ⟨I,I,I⟩,.inr ⟨I,I⟩,.inr ⟨I,I⟩,.inr ⟨I,I⟩,.inr ⟨I,I⟩,.inr ⟨I,I⟩,.inr ⟨I,I⟩,d⟩ (M I) (kB (M I)) (tQ (M I))))⟩,
     d⟩⟩⟩⟩⟩⟩⟩⟩⟩⟩⟩⟩⟩⟩⟩⟩⟩⟩⟩⟩⟩ (fun sg=>?_)
    refine(show RG _ _ _ _ [_,_,_,_,_,_,_,_,_,_,_] _ from ?_);refine Q (bl (M I))<|bv 23 Ap I<|fA (ip (hs' :=[(10,J (ix.h 0).1 (ix.h 0).2 s.out.Tables.length),(11,J (ix.h 1).1 (ix.h 1).2 s.out.Joins.length),(16,J (ix.h 2).1 (ix.h 2).2 s.out.Keys.length),(17,J ((sg 9).h 0).1 ((sg 9).h 0).2 l7.length),(18,J (ix.h 4).1 (ix.h 4).2 s.out.Items.length),(22,J (ix.h 5).1 (ix.h 5).2 s.kinds.length),(23,J ((sg 16).h 0).1 ((sg 16).h 0).2 l8.length),(19,aG (ix.h 7).2),(20,aG (ix.h 8).2),(21,aG (ix.h 9).2)]) (u:=J ((sg 16).h 0).1 ((sg 16).h 0).2 l8.length) fL I I Gm I ⟨.inr ⟨I,I⟩,.inr ⟨I,I⟩,.inr ⟨I,I⟩,.inr ⟨I,I⟩,.inr ⟨I,I⟩,.inr ⟨I,I⟩,.inl ⟨I,I,I⟩,.inr ⟨I,I⟩,.inr ⟨I,I⟩,.inr ⟨I,I⟩,d⟩ (M I) (kB (M I)) (tQ (M I))) fun i1=>?_;refine(show RG _ _ _ _ [_,_,_,_,_,_,_,_,_,_,_] _ from ?_);refine bz<|al<|al<|al<|eb<|al<|al<|dp<|al<|al<|al<|al ?_;exact cm (K1 (s.out.Aggs.length:Int) ({({s with out:=({s.out with Aggs:=l7}:aL)}:am)with groups:=l8}:am) (Va [((ix.h 0).1,(ix.h 0).2),((ix.h 1).1,(ix.h 1).2),((ix.h 2).1,(ix.h 2).2),(((sg 9).h 0).1,((sg 9).h 0).2),((ix.h 4).1,(ix.h 4).2),((ix.h 5).1,(ix.h 5).2),(((sg 16).h 0).1,((sg 16).h 0).2),(none,(ix.h 7).2),(none,(ix.h 8).2),(none,(ix.h 9).2)] [(ix.oss 0),(ix.oss 1),[]]) h) (bb I)
   ·refine bk ?_;exact cm (K1 r s ix h) (bb I)
 ·skip
  refine aY<|ba qd ll cF I<|gW I<|bY h I (fun h=>?_) (fun h=>?_)
  ·refine aD<|cq h fun r1 q_r1 h=>?_
   refine eI (ts:=[_,_,_,_,_,_,_,_,_,_,_,_]) mixed I I
    ⟨ug 3 I I (oJ vG qy I I),
    ⟨jX 0 bD I I,
    ⟨f8 I I,
    ⟨ga 16 2 I I (bl (M I)),
    ⟨ga 17 3 I I (lv 22 wA I I I),
    ⟨ga 18 4 I I (cP fL I (.head _) (.tail _ (.tail _ (.tail _ (.tail _ (.tail _ (.tail _ (.head _))))))) (M I)),
    ⟨fg 15 1 19 5 I I I (bn WC (Ke _ _ q_r1) ⟨(M I),(kB (M I)),d⟩),
    ⟨ga 20 6 I I (gH I),
    ⟨ga 13 7 I I (vS I I),
    ⟨ga 13 7 I I (vS I I),
    ⟨ga 21 8 I I (AW I),
    ⟨ga 22 9 I I (AW I),
    d⟩⟩⟩⟩⟩⟩⟩⟩⟩⟩⟩⟩ ?_
   refine av<|aT<|aX I<|gW I<|aX I<|au I (bR qd ll I I)<|au I (bM cF I I)<|au I (mV I)<|au I (q7 I)<|ej I I I I (fun D=>gH I)<|ej I I I I (fun D=>dZ (bF I D) hI)<|au I (fun D=>jw (bF I D) (fun Y=>(bF I (si D Y))))<|au I (q7 I)<|ej I I I I (fun D=>gH I)<|ej I I I I (fun D=>dZ (bF I D) hI)<|au I (fun D=>jw (bF I D) (fun Y=>(bF I (si D Y))))<|eu I<|bY h I (fun h=>?_) (fun h=>?_)
   ·exact aY<|bG<|dJ<|af<|af<|so h▸c0 (ts:=[bd 0,bd 201]) (rvs:=[.tmp 4,.tmp 5]) I I ⟨bE I,bE I,d⟩ ix I I
   ·refine gC<|aY<|ba qd ll cF I<|dw I<|aX I<|au I (bR qd ll I I)<|au I (bM cF I I)<|au I (mV I)<|eu I<|bY h I (fun h=>?_) (fun h=>?_)
    ·refine aJ<|aX I<|gE I<|bz ?_;exact cm (ax r1.1 h) (bb I)
    ·refine bk ?_;exact cm (ax (2:Int) h) (bb I)
  ·refine bk ?_;exact cm (ax (2:Int) h) (bb I)

def VW tag l{R}(h:zI tag l=some R):cI aZ 181 [bd tag,H ac l] (tT [H ac R.1,bd R.2]):=by
 exact dm Tryz.func181 I<|aY<|cK I<|aV bD cQ I fun b=>bG<|bO<|aH I<|Q (bU (y:=(⟨tag,(0:Int),(0:Int),(0:Int),HS⟩:aC)) eJ yK iS (⟨_,_,_,_,_,I,kY,I,(M I),I⟩))<|cC bD I<|Q (a8 (r:=ac) (ys:=[l]) (xs:=[.tmp 8]) mX bD I I I I I ⟨(M I),d⟩)<|eo h TZ (Kf _ _) (dd I) fun r h=>cY I I<|cY I I<|bL bD aj I<|aK 4 I<|be I<|so h▸lA I I ⟨di bD I I I,bE I,d⟩

def VV tag l r{R}(h:C8 tag l r=some R):cI aZ 182 [bd tag,H ac l,H ac r] (tT [H ac R.1,bd R.2]):=by
 refine dm Tryz.func182 I<|aY<|cK I<|cK I<|aV bD cQ I fun b=>bG<|bO<|aH I<|Q (bU (y:=(⟨tag,(0:Int),(0:Int),(0:Int),HS⟩:aC)) eJ yK iS (⟨_,_,_,_,_,I,kY,I,(M I),I⟩))<|cC bD I<|cC bD I<|Q (a8 (r:=ac) (ys:=[l,r]) (xs:=[.tmp 10,.tmp 11]) mX bD I I I I I ⟨(M I),(M I),d⟩)<|eo h TZ (Kf _ _) (dd I) fun r1 h=>cY I I<|cY I I<|bL bD aj I<|aK 6 I<|gE I<|bz ?_;exact av<|wY<|so h▸lA I I ⟨di bD I I I,bE I,d⟩

set_option maxHeartbeats 4000000 in
def Tw: ∀(fu:Nat) (b:Nat) (ix:OI) (bslf:Nat) (s:am) (t:dj) (leaf:(aC->Option (aW×Int))) (tags:(List (Int×Int))) (over:am->Bool->Option ((List Int)×am)) (i:Int) (group:Bool) {R:aW×Int×am} (h:cx fu s t leaf tags over i group=some R),ea aZ 178 [bd i,im group,bt bI t,bt (rT ((gV aZ Dy HX (fun(x:aC)=>leaf x)))) (),bt (rT (tV (an b 0))) (),bt (rT (DC (fun y:Int=>bd y) uJ tags)) (),UT 178 [bt bI t,bt (rT ((gV aZ Dy HX (fun(x:aC)=>leaf x)))) (),bt (rT (tV (an b 0))) (),bt (rT (DC (fun y:Int=>bd y) uJ tags)) ()] [bt (rT (Gg (mW aZ xK (dx b) Jv over))) ()] bslf,bt (rT (Gg (mW aZ xK (dx b) Jv over))) ()] (dx b s ix) (fun _:OI=>tT [H ac R.1,bd R.2.1]) (fun j=>dx b R.2.2 j):=by
 intro fu
 induction fu with
 |zero=>intro b ix bslf s t leaf tags over i group R h;exact(nn h).elim
 |succ fu ihR=>
  intro b ix bslf s t leaf tags over i group R h
  refine ea.of Tryz.func178 I I I fun w0 S0=>?_;refine(show CG _ _ _ [bx (rH aU (z10 ix s)) 127 b s,K aP 3 (ix.h 0).1 (ix.h 0).2 s.out.Tables,K aw 71 (ix.h 1).1 (ix.h 1).2 s.out.Joins,K aP 3 (ix.h 2).1 (ix.h 2).2 s.out.Keys,K aN 73 (ix.h 3).1 (ix.h 3).2 s.out.Aggs,K ac 62 (ix.h 4).1 (ix.h 4).2 s.out.Items,K aP 3 (ix.h 5).1 (ix.h 5).2 s.kinds,K aP 3 (ix.h 6).1 (ix.h 6).2 s.groups,ci mU ez (ix.h 7).2 none (ix.oss 0) s.called,ci ff ez (ix.h 8).2 none (ix.oss 1) s.alone,eQ (fun y:Int=>bd y) lg (ix.h 9).2 s.behind] _ from ?_);refine aY<|aV bD cQ I fun b1=>bG<|bO<|aY<|ba j5 eN sw I<|aX I<|cq h fun e q_e h=>dE oZ lS I q_e<|aV lS vY I fun b2=>bL lS aj I<|aK 12 I<|bO<|aT<|ba mh iA cF I ?_;refine dw I<|bY h I (fun h=>?_) (fun h=>?_)
  ·exact aY<|Q (qu KS (M I))<|ba qG mq lB I<|Q (bU (y:=(⟨(1:Int),(0:Int),(0:Int),(0:Int),e.Value⟩:aC)) eJ yK iS (⟨_,_,_,_,_,I,kY,I,hI,⟨_,_,_,_,_,I,Gt,I,(M I),I⟩⟩))<|cq h fun r q_r h=>Q (iE (args:=Dy) (res:=XQ) (f:=(fun(x:aC)=>leaf x)) (x:=(((⟨(1:Int),(0:Int),(0:Int),(0:Int),e.Value⟩:aC)):aC)) (M I) q_r ⟨(M I),d⟩)<|cY I I<|cY I I<|bL bD aj I<|be I<|af<|cn 10 I<|so h▸c0 (ts:=[H ac r.1,bd r.2]) (rvs:=[.cell 10 62,.tmp 11]) I I ⟨di bD I I I,bE I,d⟩ ix I I
  ·refine gC<|aT<|ba mh iA cF I<|dw I<|bY h I (fun h=>?_) (fun h=>?_)
   ·refine aY<|Q (vy KU (M I))<|ba tz pT jG I<|ba qF nj jG I<|Q (bU (y:=(⟨e.Table,e.Name⟩:km)) xM Z6 z6 (⟨_,_,_,_,_,I,IH,I,(M I),⟨_,_,_,_,_,I,IG,I,(M I),I⟩⟩))<|cq h fun r1 q_r1 h=>jl (pD (d7 (xs:=[.tmp 45,.tmp 50]) (ts:=[tV (an b 0),H fI (⟨e.Table,e.Name⟩:km)]) (dx b s ix) _ I Xq (Tz b ix s _ q_r1) ⟨(M I),(M I),d⟩ (fun _=>I))) I fun i1=>?_;refine(show RG _ _ _ _ [_,_,_,_,_,_,_,_,_,_,_,_] ((51,tT [bd r1.1,bd r1.2])::_)from ?_);refine aX I<|cY I I<|cY I I<|gE I<|bj I ?_;refine xD (h2:=fun at1 e1=>eE s leaf at1 e1=some R) (Of:=fun at1 e1=>[bx ac 62 b1 tk,bx (rH aU (z10 ix s)) 127 b s,K aP 3 (ix.h 0).1 (ix.h 0).2 s.out.Tables,K aw 71 (ix.h 1).1 (ix.h 1).2 s.out.Joins,K aP 3 (ix.h 2).1 (ix.h 2).2 s.out.Keys,K aN 73 (ix.h 3).1 (ix.h 3).2 s.out.Aggs,K ac 62 (ix.h 4).1 (ix.h 4).2 s.out.Items,K aP 3 (ix.h 5).1 (ix.h 5).2 s.kinds,K aP 3 (ix.h 6).1 (ix.h 6).2 s.groups,ci mU ez (ix.h 7).2 none (ix.oss 0) s.called,ci ff ez (ix.h 8).2 none (ix.oss 1) s.alone,eQ (fun y:Int=>bd y) lg (ix.h 9).2 s.behind]) (Gf:=fun at1 e1=>[(3,bt (rT ((gV aZ Dy HX (fun(x:aC)=>leaf x)))) ()),(10,tV (an b1 0)),(13,bd at1),(14,bd e1)]) (fun at1 e1 h=>?_) (fun ax=>?_)
    ·skip
     refine aT<|aX I<|gW I<|bY h I (fun h=>?_) (fun h=>?_)
     ·exact aY<|Q (bU bD BN cQ I)<|aX I<|bL bD aj I<|be I<|af<|af<|cn 10 I<|so h▸c0 (ts:=[H ac tk,bd e1]) (rvs:=[.cell 10 62,.tmp 11]) I I ⟨di bD I I I,bE I,d⟩ ix I I
     ·exact gC<|aY<|Q (qu KS (M I))<|aX I<|Q (bU (y:=(⟨(2:Int),(0:Int),(0:Int),at1,HS⟩:aC)) eJ yK iS (⟨_,_,_,_,_,I,kY,I,hI,⟨_,_,_,_,_,I,sL,I,(M I),I⟩⟩))<|cq h fun r2 q_r2 h=>Q (iE (args:=Dy) (res:=XQ) (f:=(fun(x:aC)=>leaf x)) (x:=(((⟨(2:Int),(0:Int),(0:Int),at1,HS⟩:aC)):aC)) (M I) q_r2 ⟨(M I),d⟩)<|cY I I<|cY I I<|bL bD aj I<|be I<|af<|cn 10 I<|so h▸c0 (ts:=[H ac r2.1,bd r2.2]) (rvs:=[.cell 10 62,.tmp 11]) I I ⟨di bD I I I,bE I,d⟩ ix I I
    ·skip
     refine aH I<|dw I<|aX I<|ap I (da I)<|eV I<|bY h I (fun h=>?_) (fun h=>?_)
     ·refine aY<|Q (vy KU (M I))<|Q (bl (M I))<|bv 10 gJ I<|bv 16 rW I<|Q (cP fL I (.head _) (.tail _ (.tail _ (.tail _ (.head _)))) (M I))<|aX I<|eo h aa9 (VX _ _) ⟨(kB (M I)),(M I),d⟩ fun r3 h=>bj I<|aH I<|Q (eP (M I) hI)<|bY h I (fun h=>?_) (fun h=>?_)
      ·refine aJ<|bG<|bz<|al<|al<|al<|al<|al<|al<|al<|al<|al<|al<|al<|co ?_;exact cm (ax r3 (225:Int) h) (bb I)
      ·refine bk<|al<|al<|al<|al<|al<|al<|al<|al<|al<|al<|al<|co ?_;exact cm (ax r3 r1.2 h) (bb I)
     ·refine bk<|al<|al<|al<|al<|al<|al<|al<|al<|al<|al<|al<|co ?_;exact cm (ax r1.1 r1.2 h) (bb I)
   ·refine gC<|aY<|Q (qu Iw (M I))<|ba mh iA cF I<|Q (EL (γ:=(fun y:Int=>H aP y)) (z:=(0:Int)) FY (xY yW) zv3 (fun S=>⟨_,I,(fun _=>I) S⟩) (M I) (NI (M I)))<|bj I<|aY<|cj false ac 62<|Q (cg y6)<|bO<|aT<|ba wy ri cF I<|ba yj sU cF I ?_;refine Q (sO (r:=aP) (ys:=[e.L,e.R]) (xs:=[.tmp 83,.tmp 85]) FR cF I JE I I ⟨(M I),(M I),d⟩)<|Q (bC hI)<|bO ?_;refine R0 (h2:=fun parts l c x ob ix1=>gU leaf tags over group e parts x ob=some R) (Of:=fun parts l c x ob (ix1:OI)=>[gb ac 62 l c parts,bx ac 62 b1 x,bx (rH aU (z10 ix1 ob)) 127 b ob,K aP 3 (ix1.h 0).1 (ix1.h 0).2 ob.out.Tables,K aw 71 (ix1.h 1).1 (ix1.h 1).2 ob.out.Joins,K aP 3 (ix1.h 2).1 (ix1.h 2).2 ob.out.Keys,K aN 73 (ix1.h 3).1 (ix1.h 3).2 ob.out.Aggs,K ac 62 (ix1.h 4).1 (ix1.h 4).2 ob.out.Items,K aP 3 (ix1.h 5).1 (ix1.h 5).2 ob.kinds,K aP 3 (ix1.h 6).1 (ix1.h 6).2 ob.groups,ci mU ez (ix1.h 7).2 none (ix1.oss 0) ob.called,ci ff ez (ix1.h 8).2 none (ix1.oss 1) ob.alone,eQ (fun y:Int=>bd y) lg (ix1.h 9).2 ob.behind]) (Gf:=fun parts l c x ob ix1=>[(1,im group),(3,bt (rT ((gV aZ Dy HX (fun(x:aC)=>leaf x)))) ()),(4,bt (rT (tV (an b 0))) ()),(7,bt (rT (Gg (mW aZ xK (dx b) Jv over))) ()),(10,tV (an b1 0)),(12,bt dk e),(15,bd ((ij tags e.Tag).getD (0:Int))),(16,sn l c parts)]) (fun parts l c x ob ix1 h=>?_) (fun K1=>?_)
    ·skip
     refine av<|aD<|ai<|aH I<|Q (fa (M I) hI)<|aX I<|ap I (da I)<|ap I (sy I)<|eV I<|bj I<|mA h I (fun h=>?_) (fun h=>?_)
     ·exact aY<|Q (bU bD BN cQ I)<|dW<|bL bD aj I<|dJ<|bZ<|cn 10 I<|aM<|so h▸c0 (ts:=[H ac tk,bd 224]) (rvs:=[.cell 10 62,.tmp 11]) I I ⟨di bD I I I,bE I,d⟩ ix1 I I
     ·refine aH I<|Q (fa (M I) hI)<|bj I<|mA h I (fun h=>?_) (fun h=>?_)
      ·refine aH I<|Q (bU (y:=(⟨((ij tags e.Tag).getD (0:Int)),tk⟩:f9)) p9 Z8 Br (⟨_,_,_,_,_,I,Le,I,(M I),I⟩))<|aV p9 Br I fun b3=>bL p9 aj I<|bO ?_;refine ig (h2:=fun a1=>fP leaf ob a1=some R) (Of:=fun a1=>[bx ac 62 b1 x,bx aN 73 b3 a1,bx (rH aU (z10 ix1 ob)) 127 b ob,K aP 3 (ix1.h 0).1 (ix1.h 0).2 ob.out.Tables,K aw 71 (ix1.h 1).1 (ix1.h 1).2 ob.out.Joins,K aP 3 (ix1.h 2).1 (ix1.h 2).2 ob.out.Keys,K aN 73 (ix1.h 3).1 (ix1.h 3).2 ob.out.Aggs,K ac 62 (ix1.h 4).1 (ix1.h 4).2 ob.out.Items,K aP 3 (ix1.h 5).1 (ix1.h 5).2 ob.kinds,K aP 3 (ix1.h 6).1 (ix1.h 6).2 ob.groups,ci mU ez (ix1.h 7).2 none (ix1.oss 0) ob.called,ci ff ez (ix1.h 8).2 none (ix1.oss 1) ob.alone,eQ (fun y:Int=>bd y) lg (ix1.h 9).2 ob.behind]) (Gf:=fun a1=>[(3,bt (rT ((gV aZ Dy HX (fun(x:aC)=>leaf x)))) ()),(4,bt (rT (tV (an b 0))) ()),(10,tV (an b1 0)),(21,tV (an b3 0))]) (fun a1 h=>?_) (fun K2=>?_)
       ·skip
        refine aY<|Q (vy KU (M I))<|Q (bB p9 I I cD (.tail _ (.head _)) (M I))<|cq h fun r4 q_r4 h=>jl (B0 (pD (d7 (xs:=[.tmp 133,.tmp 134]) (ts:=[tV (an b 0),H aN a1]) (dx b ob ix1) _ I aa8 (Y8 b ix1 ob _ q_r4) ⟨(M I),(M I),d⟩ (fun _=>I)))) I fun i2=>?_;refine(show RG _ _ _ _ [_,_,_,_,_,_,_,_,_,_,_,_,_] ((135,tT [bd r4.1,bd r4.2.1])::_)from ?_);refine aX I<|cY I I<|cY I I<|gE I<|bj I<|aT<|aX I<|gW I<|bY h I (fun h=>?_) (fun h=>?_)
        ·exact aY<|Q (bU bD BN cQ I)<|aX I<|BW<|bL bD aj I<|be I<|af<|bZ<|cn 10 I<|co<|aM<|so h▸c0 (ts:=[H ac tk,bd r4.2.1]) (rvs:=[.cell 10 62,.tmp 11]) I I ⟨di bD I I I,bE I,d⟩ i2 I I
        ·exact gC<|aY<|Q (qu KS (M I))<|aX I<|Q (bU (y:=(⟨(2:Int),(0:Int),(0:Int),r4.1,HS⟩:aC)) eJ yK iS (⟨_,_,_,_,_,I,kY,I,hI,⟨_,_,_,_,_,I,sL,I,(M I),I⟩⟩))<|cq h fun r5 q_r5 h=>Q (iE (args:=Dy) (res:=XQ) (f:=(fun(x:aC)=>leaf x)) (x:=(((⟨(2:Int),(0:Int),(0:Int),r4.1,HS⟩:aC)):aC)) (M I) q_r5 ⟨(M I),d⟩)<|cY I I<|cY I I<|BW<|bL bD aj I<|be I<|bZ<|cn 10 I<|co<|aM<|so h▸c0 (ts:=[H ac r5.1,bd r5.2]) (rvs:=[.cell 10 62,.tmp 11]) I I ⟨di bD I I I,bE I,d⟩ i2 I I
       ·skip
        refine aH I<|Q (iv mX (.tail _ (.head _)) (M I))<|Q (fa (M I) hI)<|bY h I (fun h=>?_) (fun h=>?_)
        ·refine aJ<|aX I<|cq h fun e2 q_e2 h=>Q (cy mX bD (.tail _ (.head _)) (M I) hI q_e2)<|Q (dQ (r:=ac) (i:=(0:Int)) (foff:=0) bD I I cD I (.tail _ (.head _)) q_e2 (M I))<|bv 1 vG I<|bL bD Ld I<|bz<|dM<|aM<|bX<|bX<|bX<|bX<|bX<|bX<|bX<|bX<|bX<|bX<|bX<|co<|bX ?_;exact cm (K2 (f9.mk (⟨((ij tags e.Tag).getD (0:Int)),tk⟩:f9).Tag e2) h) (bb I)
        ·refine bk<|dM<|aM<|bX<|bX<|bX<|bX<|bX<|bX<|bX<|bX<|bX<|bX<|bX<|co<|bX ?_;exact cm (K2 (⟨((ij tags e.Tag).getD (0:Int)),tk⟩:f9) h) (bb I)
      ·refine bk<|bq<|av<|aD<|cq h fun e3 q_e3 h=>cq h fun r6 q_r6 h=>?_
       refine ek 11 [tc (bt aP e.Tag),tc (bd e.Tag),tc (sn l c parts),tc (tV (dS l ((0:Int).toNat*1+0))),tc (H ac e3),tc (tT [H ac r6.1,bd r6.2]),tc (tT [H ac r6.1,bd r6.2]),tc (H ac r6.1),tc (bd r6.2),([9],fun s=>tV (an ((s.getD 0 oF).h 0).2 0)),tc (tR)] [false,false,false,false,false,false,false,false,false,true,true] [fun _=>[gb ac 62 l c parts,bx ac 62 b1 x,bx (rH aU (z10 ix1 ob)) 127 b ob,K aP 3 (ix1.h 0).1 (ix1.h 0).2 ob.out.Tables,K aw 71 (ix1.h 1).1 (ix1.h 1).2 ob.out.Joins,K aP 3 (ix1.h 2).1 (ix1.h 2).2 ob.out.Keys,K aN 73 (ix1.h 3).1 (ix1.h 3).2 ob.out.Aggs,K ac 62 (ix1.h 4).1 (ix1.h 4).2 ob.out.Items,K aP 3 (ix1.h 5).1 (ix1.h 5).2 ob.kinds,K aP 3 (ix1.h 6).1 (ix1.h 6).2 ob.groups,ci mU ez (ix1.h 7).2 none (ix1.oss 0) ob.called,ci ff ez (ix1.h 8).2 none (ix1.oss 1) ob.alone,eQ (fun y:Int=>bd y) lg (ix1.h 9).2 ob.behind],fun sg=>[bx ac 62 ((sg 9).h 0).2 tk,gb ac 62 l c parts,bx ac 62 b1 x,bx (rH aU (z10 ix1 ob)) 127 b ob,K aP 3 (ix1.h 0).1 (ix1.h 0).2 ob.out.Tables,K aw 71 (ix1.h 1).1 (ix1.h 1).2 ob.out.Joins,K aP 3 (ix1.h 2).1 (ix1.h 2).2 ob.out.Keys,K aN 73 (ix1.h 3).1 (ix1.h 3).2 ob.out.Aggs,K ac 62 (ix1.h 4).1 (ix1.h 4).2 ob.out.Items,K aP 3 (ix1.h 5).1 (ix1.h 5).2 ob.kinds,K aP 3 (ix1.h 6).1 (ix1.h 6).2 ob.groups,ci mU ez (ix1.h 7).2 none (ix1.oss 0) ob.called,ci ff ez (ix1.h 8).2 none (ix1.oss 1) ob.alone,eQ (fun y:Int=>bd y) lg (ix1.h 9).2 ob.behind],fun sg=>[bx ac 62 ((sg 9).h 0).2 r6.1,gb ac 62 l c parts,bx ac 62 b1 x,bx (rH aU (z10 ix1 ob)) 127 b ob,K aP 3 (ix1.h 0).1 (ix1.h 0).2 ob.out.Tables,K aw 71 (ix1.h 1).1 (ix1.h 1).2 ob.out.Joins,K aP 3 (ix1.h 2).1 (ix1.h 2).2 ob.out.Keys,K aN 73 (ix1.h 3).1 (ix1.h 3).2 ob.out.Aggs,K ac 62 (ix1.h 4).1 (ix1.h 4).2 ob.out.Items,K aP 3 (ix1.h 5).1 (ix1.h 5).2 ob.kinds,K aP 3 (ix1.h 6).1 (ix1.h 6).2 ob.groups,ci mU ez (ix1.h 7).2 none (ix1.oss 0) ob.called,ci ff ez (ix1.h 8).2 none (ix1.oss 1) ob.alone,eQ (fun y:Int=>bd y) lg (ix1.h 9).2 ob.behind]] I mixed I I I I I
        ⟨⟨[⟨12,fun _=>bt dk e,none⟩],_,0,1,I,⟨(fun _=>I),d⟩,I,I,I,I,I,fun _ sg _ _=>aa I (oJ mh iA I I)⟩,
        ⟨⟨[⟨149,fun _=>bt aP e.Tag,some 0⟩],_,0,1,I,⟨(fun _=>I),d⟩,I,I,I,I,I,fun _ sg _ _=>aa I (qN cF I I)⟩,
        ⟨⟨[⟨16,fun _=>tV (J l c parts.length),none⟩],_,0,1,I,⟨(fun _=>I),d⟩,I,I,I,I,I,fun _ sg _ _=>aa I (gH I)⟩,
        ⟨⟨[⟨151,fun _=>tV (J l c parts.length),some 2⟩],_,0,1,I,⟨(fun _=>I),d⟩,I,I,I,I,I,um (fun sg=>aa I (cy mX bD (.head _) (M I) hI q_e3)) (fK (fun sg=>aa I (cy mX bD (.tail _ (.head _)) (M I) hI q_e3)))⟩,
        ⟨⟨[⟨152,fun _=>tV (dS l ((0:Int).toNat*1+0)),some 3⟩],_,0,1,I,⟨(fun _=>I),d⟩,I,I,I,I,I,um (fun sg=>aa I (dQ (r:=ac) (i:=(0:Int)) (foff:=0) bD I I cD I (.head _) q_e3 (M I))) (fK (fun sg=>aa I (dQ (r:=ac) (i:=(0:Int)) (foff:=0) bD I I cD I (.tail _ (.head _)) q_e3 (M I))))⟩,
        ⟨⟨[⟨150,fun _=>H aP e.Tag,some 1⟩,⟨153,fun _=>H ac e3,some 4⟩],_,0,1,I,⟨(fun _=>I),(fun _=>I),d⟩,I,I,I,I,I,fun _ sg _ _=>aa I (bn aa7 (VW _ _ q_r6) ⟨(M I),(M I),d⟩)⟩,
        ⟨⟨[⟨154,fun _=>tT [H ac r6.1,H aP r6.2],some 5⟩],_,0,1,I,⟨(fun _=>I),d⟩,I,I,I,I,I,fun _ sg _ _=>aa I (gH I)⟩,
        ⟨⟨[⟨148,fun _=>tT [H ac r6.1,H aP r6.2],some 6⟩],_,0,1,I,⟨(fun _=>I),d⟩,I,I,I,I,I,fun _ sg _ _=>aa I (vS I I)⟩,
        ⟨⟨[⟨148,fun _=>tT [H ac r6.1,H aP r6.2],some 6⟩],_,0,2,I,⟨(fun _=>I),d⟩,I,I,I,I,I,fun _ sg _ _=>aa I (vS I I)⟩,
        ⟨⟨[],_,I,d,I,I,I,fun sg=>bS I (oB bD cQ)⟩,
        ⟨⟨[⟨24,fun sg=>tV (an ((sg 9).h 0).2 0),some 9⟩,⟨155,fun _=>H ac r6.1,some 7⟩],_,I,⟨(fun _=>I),(fun _=>I),d⟩,I,I,I,fun sg=>bS I (dq bD I (uu aj) I (M I) (M I))⟩,
        d⟩⟩⟩⟩⟩⟩⟩⟩⟩⟩⟩ (fun sg=>?_)
       refine(show RG _ _ _ _ [_,_,_,_,_,_,_,_,_,_,_,_,_,_] _ from ?_);refine bj I ?_;refine xD (h2:=fun e4 x1=>je over group ob e4 x1=some R) (Of:=fun e4 x1=>[bx ac 62 b1 x,bx ac 62 ((sg 9).h 0).2 x1,bx (rH aU (z10 ix1 ob)) 127 b ob,K aP 3 (ix1.h 0).1 (ix1.h 0).2 ob.out.Tables,K aw 71 (ix1.h 1).1 (ix1.h 1).2 ob.out.Joins,K aP 3 (ix1.h 2).1 (ix1.h 2).2 ob.out.Keys,K aN 73 (ix1.h 3).1 (ix1.h 3).2 ob.out.Aggs,K ac 62 (ix1.h 4).1 (ix1.h 4).2 ob.out.Items,K aP 3 (ix1.h 5).1 (ix1.h 5).2 ob.kinds,K aP 3 (ix1.h 6).1 (ix1.h 6).2 ob.groups,ci mU ez (ix1.h 7).2 none (ix1.oss 0) ob.called,ci ff ez (ix1.h 8).2 none (ix1.oss 1) ob.alone,eQ (fun y:Int=>bd y) lg (ix1.h 9).2 ob.behind]) (Gf:=fun e4 x1=>[(1,im group),(7,bt (rT (Gg (mW aZ xK (dx b) Jv over))) ()),(10,tV (an b1 0)),(24,tV (an ((sg 9).h 0).2 0)),(25,bd e4)]) (fun e4 x1 h=>?_) (fun K3=>?_)
       ·skip
        refine vj (h2:=fun e5 ob1 ix2=>py x1 e5 ob1=some R) (Of:=fun e5 ob1 (ix2:OI)=>[bx ac 62 b1 x,bx ac 62 ((sg 9).h 0).2 x1,bx (rH aU (z10 ix2 ob1)) 127 b ob1,K aP 3 (ix2.h 0).1 (ix2.h 0).2 ob1.out.Tables,K aw 71 (ix2.h 1).1 (ix2.h 1).2 ob1.out.Joins,K aP 3 (ix2.h 2).1 (ix2.h 2).2 ob1.out.Keys,K aN 73 (ix2.h 3).1 (ix2.h 3).2 ob1.out.Aggs,K ac 62 (ix2.h 4).1 (ix2.h 4).2 ob1.out.Items,K aP 3 (ix2.h 5).1 (ix2.h 5).2 ob1.kinds,K aP 3 (ix2.h 6).1 (ix2.h 6).2 ob1.groups,ci mU ez (ix2.h 7).2 none (ix2.oss 0) ob1.called,ci ff ez (ix2.h 8).2 none (ix2.oss 1) ob1.alone,eQ (fun y:Int=>bd y) lg (ix2.h 9).2 ob1.behind]) (Gf:=fun e5 ob1 ix2=>[(10,tV (an b1 0)),(24,tV (an ((sg 9).h 0).2 0)),(25,bd e5)]) (fun e5 ob1 ix2 h=>?_) (fun K4=>?_)
        ·skip
         exact aY<|Q (bB bD I I cD (.tail _ (.head _)) (M I))<|aX I<|bL bD aj I<|be I<|cn 10 I<|aM<|so h▸c0 (ts:=[H ac x1,bd e5]) (rvs:=[.cell 10 62,.tmp 11]) I I ⟨di bD I I I,bE I,d⟩ ix2 I I
        ·skip
         refine aH I<|dw I<|bY h I (fun h=>?_) (fun h=>?_)
         ·refine cq h fun r7 q_r7 h=>cq h fun r8 q_r8 h=>?_
          refine ek 8 [tc (H ac x1),tc (mW aZ xK (dx b) Jv over),tc (im group),tc (pE r7.1),tc (tT [bd r8.1,bd r8.2]),tc (tT [bd r8.1,bd r8.2]),tc (bd r8.1),tc (bd r8.2)] [false,false,false,true,false,false,false,false] [fun _=>[bx ac 62 b1 x,bx ac 62 ((sg 9).h 0).2 x1,bx (rH aU (z10 ix1 ob)) 127 b ob,K aP 3 (ix1.h 0).1 (ix1.h 0).2 ob.out.Tables,K aw 71 (ix1.h 1).1 (ix1.h 1).2 ob.out.Joins,K aP 3 (ix1.h 2).1 (ix1.h 2).2 ob.out.Keys,K aN 73 (ix1.h 3).1 (ix1.h 3).2 ob.out.Aggs,K ac 62 (ix1.h 4).1 (ix1.h 4).2 ob.out.Items,K aP 3 (ix1.h 5).1 (ix1.h 5).2 ob.kinds,K aP 3 (ix1.h 6).1 (ix1.h 6).2 ob.groups,ci mU ez (ix1.h 7).2 none (ix1.oss 0) ob.called,ci ff ez (ix1.h 8).2 none (ix1.oss 1) ob.alone,eQ (fun y:Int=>bd y) lg (ix1.h 9).2 ob.behind],fun sg1=>[bx (rH aU [(10,J ((sg1 3).h 0).1 ((sg1 3).h 0).2 r7.2.out.Tables.length),(11,J ((sg1 3).h 1).1 ((sg1 3).h 1).2 r7.2.out.Joins.length),(16,J ((sg1 3).h 2).1 ((sg1 3).h 2).2 r7.2.out.Keys.length),(17,J ((sg1 3).h 3).1 ((sg1 3).h 3).2 r7.2.out.Aggs.length),(18,J ((sg1 3).h 4).1 ((sg1 3).h 4).2 r7.2.out.Items.length),(22,J ((sg1 3).h 5).1 ((sg1 3).h 5).2 r7.2.kinds.length),(23,J ((sg1 3).h 6).1 ((sg1 3).h 6).2 r7.2.groups.length),(19,aG ((sg1 3).h 7).2),(20,aG ((sg1 3).h 8).2),(21,aG ((sg1 3).h 9).2)]) 127 b r7.2,K aP 3 ((sg1 3).h 0).1 ((sg1 3).h 0).2 r7.2.out.Tables,K aw 71 ((sg1 3).h 1).1 ((sg1 3).h 1).2 r7.2.out.Joins,K aP 3 ((sg1 3).h 2).1 ((sg1 3).h 2).2 r7.2.out.Keys,K aN 73 ((sg1 3).h 3).1 ((sg1 3).h 3).2 r7.2.out.Aggs,K ac 62 ((sg1 3).h 4).1 ((sg1 3).h 4).2 r7.2.out.Items,K aP 3 ((sg1 3).h 5).1 ((sg1 3).h 5).2 r7.2.kinds,K aP 3 ((sg1 3).h 6).1 ((sg1 3).h 6).2 r7.2.groups,ci mU ez ((sg1 3).h 7).2 none ((sg1 3).oss 0) r7.2.called,ci ff ez ((sg1 3).h 8).2 none ((sg1 3).oss 1) r7.2.alone,eQ (fun y:Int=>bd y) lg ((sg1 3).h 9).2 r7.2.behind,bx ac 62 ((sg 9).h 0).2 x1,bx ac 62 b1 x]] I mixed I I I I I
           ⟨⟨[⟨24,fun _=>tV (an ((sg 9).h 0).2 0),none⟩],_,0,1,I,⟨(fun _=>I),d⟩,I,I,I,I,I,um (fun sg1=>aa I (bB bD I I cD (.tail _ (.head _)) (M I))) (fK (fun sg1=>aa I (bB bD I I cD (.tail _ (.tail _ (.tail _ (.tail _ (.tail _ (.tail _ (.tail _ (.tail _ (.tail _ (.tail _ (.tail _ (.head _)))))))))))) (M I))))⟩,
           ⟨⟨[⟨7,fun _=>bt (rT (Gg (mW aZ Qu (dx b) Qv over))) (),none⟩],_,0,0,I,⟨(fun _=>I),d⟩,I,I,I,I,I,fun _ sg1 _ _=>aa I (IS OW (M I))⟩,
           ⟨⟨[⟨1,fun _=>H rB group,none⟩],_,0,0,I,⟨(fun _=>I),d⟩,I,I,I,I,I,fun _ sg1 _ _=>aa I (gH I)⟩,
           ⟨⟨[⟨176,fun _=>mW aZ Qu (dx b) Qv over,some 1⟩,⟨177,fun _=>H rB group,some 2⟩],_,I,⟨(fun _=>I),(fun _=>I),d⟩,I,I,I,fun sg1=>bS I (B0 (pD (yn (args:=Qu) (Ob:=dx b) (res:=Qv) (f:=over) (x:=ob) (y:=((group):Bool)) (R:=r7) (i:=ix1) (xs:=[.tmp 177]) _ I (M I) q_r7 ⟨(M I),d⟩ (fun _=>I))))⟩,
           ⟨⟨[⟨175,fun _=>H ac x1,some 0⟩,⟨178,fun _=>H Dx r7.1,some 3⟩],_,1,1,I,⟨(fun _=>I),(fun _=>I),d⟩,I,I,I,I,I,fun _ sg1 _ _=>aa I (bn WC (Ke _ _ q_r8) ⟨(M I),(M I),d⟩)⟩,
           ⟨⟨[⟨179,fun _=>tT [H aP r8.1,H aP r8.2],some 4⟩],_,1,1,I,⟨(fun _=>I),d⟩,I,I,I,I,I,fun _ sg1 _ _=>aa I (gH I)⟩,
           ⟨⟨[⟨174,fun _=>tT [H aP r8.1,H aP r8.2],some 5⟩],_,1,1,I,⟨(fun _=>I),d⟩,I,I,I,I,I,fun _ sg1 _ _=>aa I (vS I I)⟩,
           ⟨⟨[⟨174,fun _=>tT [H aP r8.1,H aP r8.2],some 5⟩],_,1,1,I,⟨(fun _=>I),d⟩,I,I,I,I,I,fun _ sg1 _ _=>aa I (vS I I)⟩,
           d⟩⟩⟩⟩⟩⟩⟩⟩ (fun sg1=>?_)
          refine(show RG _ _ _ _ [_,_,_,_,_,_,_,_,_,_,_,_,_] _ from ?_);refine gE I<|bz<|al<|al<|al<|al<|al<|al<|al<|al<|al<|al<|al<|co<|bX ?_;exact cm (K4 r8.2 r7.2 (sg1 3) h) (bb I)
         ·refine bk ?_;exact cm (K4 e4 ob ix1 h) (bb I)
       ·skip
        refine aH I<|Q (iv mX (.tail _ (.head _)) (M I))<|dw I<|bY h I (fun h=>?_) (fun h=>?_)
        ·refine cq h fun e6 q_e6 h=>cq h fun r9 q_r9 h=>?_
         refine ek 13 [tc (bt aP e.Tag),tc (bd e.Tag),tc (sn l c parts),tc (tV (dS l ((0:Int).toNat*1+0))),tc (H ac e3),tc (sn l c parts),tc (tV (dS l ((1:Int).toNat*1+0))),tc (H ac e6),tc (tT [H ac r9.1,bd r9.2]),tc (tT [H ac r9.1,bd r9.2]),tc (H ac r9.1),tc (bd r9.2),tc (tR)] [false,false,false,false,false,false,false,false,false,false,false,false,true] [fun _=>[bx ac 62 ((sg 9).h 0).2 r6.1,gb ac 62 l c parts,bx ac 62 b1 x,bx (rH aU (z10 ix1 ob)) 127 b ob,K aP 3 (ix1.h 0).1 (ix1.h 0).2 ob.out.Tables,K aw 71 (ix1.h 1).1 (ix1.h 1).2 ob.out.Joins,K aP 3 (ix1.h 2).1 (ix1.h 2).2 ob.out.Keys,K aN 73 (ix1.h 3).1 (ix1.h 3).2 ob.out.Aggs,K ac 62 (ix1.h 4).1 (ix1.h 4).2 ob.out.Items,K aP 3 (ix1.h 5).1 (ix1.h 5).2 ob.kinds,K aP 3 (ix1.h 6).1 (ix1.h 6).2 ob.groups,ci mU ez (ix1.h 7).2 none (ix1.oss 0) ob.called,ci ff ez (ix1.h 8).2 none (ix1.oss 1) ob.alone,eQ (fun y:Int=>bd y) lg (ix1.h 9).2 ob.behind],fun sg2=>[bx ac 62 ((sg 9).h 0).2 r9.1,gb ac 62 l c parts,bx ac 62 b1 x,bx (rH aU (z10 ix1 ob)) 127 b ob,K aP 3 (ix1.h 0).1 (ix1.h 0).2 ob.out.Tables,K aw 71 (ix1.h 1).1 (ix1.h 1).2 ob.out.Joins,K aP 3 (ix1.h 2).1 (ix1.h 2).2 ob.out.Keys,K aN 73 (ix1.h 3).1 (ix1.h 3).2 ob.out.Aggs,K ac 62 (ix1.h 4).1 (ix1.h 4).2 ob.out.Items,K aP 3 (ix1.h 5).1 (ix1.h 5).2 ob.kinds,K aP 3 (ix1.h 6).1 (ix1.h 6).2 ob.groups,ci mU ez (ix1.h 7).2 none (ix1.oss 0) ob.called,ci ff ez (ix1.h 8).2 none (ix1.oss 1) ob.alone,eQ (fun y:Int=>bd y) lg (ix1.h 9).2 ob.behind]] I mixed I I I I I
          ⟨⟨[⟨12,fun _=>bt dk e,none⟩],_,0,0,I,⟨(fun _=>I),d⟩,I,I,I,I,I,fun _ sg2 _ _=>aa I (oJ mh iA I I)⟩,
          ⟨⟨[⟨161,fun _=>bt aP e.Tag,some 0⟩],_,0,0,I,⟨(fun _=>I),d⟩,I,I,I,I,I,fun _ sg2 _ _=>aa I (qN cF I I)⟩,
          ⟨⟨[⟨16,fun _=>tV (J l c parts.length),none⟩],_,0,0,I,⟨(fun _=>I),d⟩,I,I,I,I,I,fun _ sg2 _ _=>aa I (gH I)⟩,
          ⟨⟨[⟨163,fun _=>tV (J l c parts.length),some 2⟩],_,0,0,I,⟨(fun _=>I),d⟩,I,I,I,I,I,fK (fun sg2=>aa I (cy mX bD (.tail _ (.head _)) (M I) hI q_e3))⟩,
          ⟨⟨[⟨164,fun _=>tV (dS l ((0:Int).toNat*1+0)),some 3⟩],_,0,0,I,⟨(fun _=>I),d⟩,I,I,I,I,I,fK (fun sg2=>aa I (dQ (r:=ac) (i:=(0:Int)) (foff:=0) bD I I cD I (.tail _ (.head _)) q_e3 (M I)))⟩,
          ⟨⟨[⟨16,fun _=>tV (J l c parts.length),none⟩],_,0,0,I,⟨(fun _=>I),d⟩,I,I,I,I,I,fun _ sg2 _ _=>aa I (gH I)⟩,
          ⟨⟨[⟨166,fun _=>tV (J l c parts.length),some 5⟩],_,0,0,I,⟨(fun _=>I),d⟩,I,I,I,I,I,fK (fun sg2=>aa I (cy mX bD (.tail _ (.head _)) (M I) hI q_e6))⟩,
          ⟨⟨[⟨167,fun _=>tV (dS l ((1:Int).toNat*1+0)),some 6⟩],_,0,0,I,⟨(fun _=>I),d⟩,I,I,I,I,I,fK (fun sg2=>aa I (dQ (r:=ac) (i:=(1:Int)) (foff:=0) bD I I cD I (.tail _ (.head _)) q_e6 (M I)))⟩,
          ⟨⟨[⟨162,fun _=>H aP e.Tag,some 1⟩,⟨165,fun _=>H ac e3,some 4⟩,⟨168,fun _=>H ac e6,some 7⟩],_,0,0,I,⟨(fun _=>I),(fun _=>I),(fun _=>I),d⟩,I,I,I,I,I,fun _ sg2 _ _=>aa I (bn aa6 (VV _ _ _ q_r9) ⟨(M I),(M I),(M I),d⟩)⟩,
          ⟨⟨[⟨169,fun _=>tT [H ac r9.1,H aP r9.2],some 8⟩],_,0,0,I,⟨(fun _=>I),d⟩,I,I,I,I,I,fun _ sg2 _ _=>aa I (gH I)⟩,
          ⟨⟨[⟨160,fun _=>tT [H ac r9.1,H aP r9.2],some 9⟩],_,0,0,I,⟨(fun _=>I),d⟩,I,I,I,I,I,fun _ sg2 _ _=>aa I (vS I I)⟩,
          ⟨⟨[⟨160,fun _=>tT [H ac r9.1,H aP r9.2],some 9⟩],_,0,1,I,⟨(fun _=>I),d⟩,I,I,I,I,I,fun _ sg2 _ _=>aa I (vS I I)⟩,
          ⟨⟨[⟨24,fun _=>tV (an ((sg 9).h 0).2 0),none⟩,⟨170,fun _=>H ac r9.1,some 10⟩],_,I,⟨(fun _=>I),(fun _=>I),d⟩,I,I,I,fun sg2=>bS I (dq bD I (uu aj) I (M I) (M I))⟩,
          d⟩⟩⟩⟩⟩⟩⟩⟩⟩⟩⟩⟩⟩ (fun sg2=>?_)
         refine(show RG _ _ _ _ [_,_,_,_,_,_,_,_,_,_,_,_,_,_] _ from ?_);refine gE I<|bz<|dM<|aM<|bX<|bX<|bX<|bX<|bX<|bX<|bX<|bX<|bX<|bX<|bX<|co<|bX ?_;exact cm (K3 r9.2 r9.1 h) (bb I)
        ·refine bk<|dM<|aM<|bX<|bX<|bX<|bX<|bX<|bX<|bX<|bX<|bX<|bX<|bX<|co<|bX ?_;exact cm (K3 r6.2 r6.1 h) (bb I)
    ·skip
     refine bp ?_;refine ay (Qj (h2:=fun k i3 parts1 l15 c15 x2 ob2 ix3=>(2-i3=k)/\eD (cx fu) t leaf tags over group e k i3 parts1 x2 ob2=some R) (Of:=fun _ i3 parts1 l15 c15 x2 ob2 (ix3:OI)=>[gb ac 62 l15 c15 parts1,bx ac 62 b1 x2,bx (rH aU (z10 ix3 ob2)) 127 b ob2,K aP 3 (ix3.h 0).1 (ix3.h 0).2 ob2.out.Tables,K aw 71 (ix3.h 1).1 (ix3.h 1).2 ob2.out.Joins,K aP 3 (ix3.h 2).1 (ix3.h 2).2 ob2.out.Keys,K aN 73 (ix3.h 3).1 (ix3.h 3).2 ob2.out.Aggs,K ac 62 (ix3.h 4).1 (ix3.h 4).2 ob2.out.Items,K aP 3 (ix3.h 5).1 (ix3.h 5).2 ob2.kinds,K aP 3 (ix3.h 6).1 (ix3.h 6).2 ob2.groups,ci mU ez (ix3.h 7).2 none (ix3.oss 0) ob2.called,ci ff ez (ix3.h 8).2 none (ix3.oss 1) ob2.alone,eQ (fun y:Int=>bd y) lg (ix3.h 9).2 ob2.behind]) (Gf:=fun _ i3 parts1 l15 c15 x2 ob2 ix3=>[(1,im group),(3,bt (rT ((gV aZ Dy HX (fun(x:aC)=>leaf x)))) ()),(4,bt (rT (tV (an b 0))) ()),(6,UT 178 [bt bI t,bt (rT ((gV aZ Dy HX (fun(x:aC)=>leaf x)))) (),bt (rT (tV (an b 0))) (),bt (rT (DC (fun y:Int=>bd y) uJ tags)) ()] [bt (rT (Gg (mW aZ xK (dx b) Jv over))) ()] bslf),(7,bt (rT (Gg (mW aZ xK (dx b) Jv over))) ()),(10,tV (an b1 0)),(12,bt dk e),(15,bd ((ij tags e.Tag).getD (0:Int))),(16,sn l15 c15 parts1),(86,H Jw ([e.L,e.R])),(87,bd (i3:Int))]) (fun i3 parts1 l15 c15 x2 ob2 ix3 h=>?_) (fun k1 ih1 i3 parts1 l15 c15 x2 ob2 ix3 h=>?_) 2 0 ([]:List aW) none 0 tk s ix ⟨I,h⟩) (bb I)
     ·obtain⟨A,h⟩:=h
      refine dX<|aY<|Q (eP (M I) hI)<|bO<|aD<|qB (M I) (Rd A)<|eY<|aI<|aI<|cW ?_;exact cm (K1 parts1 l15 c15 x2 ob2 ix3 h) (bb I)
     ·obtain⟨A,h⟩:=h
      refine dX<|aY<|Q (eP (M I) hI)<|bO<|aD<|qA (M I) (Rc A)<|gC<|aD<|ai<|aY<|cq h fun e8 q_e8 h=>Q (xj FR cF I I (M I) (M I) q_e8)<|bj I<|aT<|aX I<|Q (eP (M I) hI) ?_;refine bY h I (fun h=>?_) (fun h=>?_)
      ·refine eY<|aI<|dc I<|aI<|aI<|cW ?_;exact cm (K1 parts1 l15 c15 x2 ob2 ix3 h) (bb I)
      ·refine gC<|aY<|Q (IT OV (M I))<|aX I<|aX I<|aX I<|ap I (da I)<|ap I (mV I)<|eV I<|cq h fun r10 q_r10 h=>jl (B0 (pD (Hl (xs:=[.tmp 94,.tmp 99]) (ts:=[bd e8,im (group&&(((ij tags e.Tag).getD (0:Int))==(0:Int)))]) (dx b ob2 ix3) _ I (M I) (cp:= .tmp 6) (M I) Xl (ihR b ix3 bslf ob2 _ _ _ _ _ _ q_r10) ⟨(M I),(M I),d⟩ (fun _=>I)))) I fun i4=>?_;refine(show RG _ _ _ _ [_,_,_,_,_,_,_,_,_,_,_,_,_] ((100,tT [H ac r10.1,bd r10.2.1])::_)from ?_);refine aX I<|cY I I<|cY I I<|aV bD cQ I fun b4=>bL bD aj I<|aK 19 I<|bj I<|aT<|aX I<|gW I<|bY h I (fun h=>?_) (fun h=>?_)
       ·exact aY<|cC bD I<|aX I<|BX<|bL bD aj I<|be I<|af<|bZ<|af<|bZ<|cn 10 I<|co<|aM<|so h▸c0 (ts:=[H ac r10.1,bd r10.2.1]) (rvs:=[.cell 10 62,.tmp 11]) I I ⟨di bD I I I,bE I,d⟩ i4 I I
       ·refine gC<|aJ<|aX I<|cC bD I<|Q (a8 (r:=ac) (ys:=[r10.1]) (xs:=[.tmp 108]) mX bD I I I I I ⟨(M I),d⟩)<|BW<|cq h fun parts2 q_parts2 h=>d8 bD I I I I mX I I (M I) (M I) q_parts2 fun l23 c23=>gE I<|bz<|bq<|av<|aJ<|Q (wl (Nz A (by decide)) (M I) hI)<|aX I<|bz<|co<|co<|co<|co<|co<|co<|co ?_;refine co<|co<|co<|co<|bX<|bX ?_;exact aS (ay (ih1 (i3+1) parts2 l23 c23 x2 r10.2.2 i4 ⟨Ny A,h⟩) (bb I))
def Y9(b:Nat)(ix:OI)(bslf:Nat) s t leaf tags over i group{R}(h:se s t leaf tags over i group=some R):ea aZ 178 [bd i,im group,bt bI t,bt (rT ((gV aZ Dy HX (fun(x:aC)=>leaf x)))) (),bt (rT (tV (an b 0))) (),bt (rT (DC (fun y:Int=>bd y) uJ tags)) (),UT 178 [bt bI t,bt (rT ((gV aZ Dy HX (fun(x:aC)=>leaf x)))) (),bt (rT (tV (an b 0))) (),bt (rT (DC (fun y:Int=>bd y) uJ tags)) ()] [bt (rT (Gg (mW aZ xK (dx b) Jv over))) ()] bslf,bt (rT (Gg (mW aZ xK (dx b) Jv over))) ()] (dx b s ix) (fun _:OI=>tT [H ac R.1,bd R.2.1]) (fun j=>dx b R.2.2 j):=Tw gi b ix bslf s t leaf tags over i group h

end Go.Proofs.YthbdkceckjihgaaGreatDoor

