import Derived.Test.YtaehdhmbgmbgiaaGreatDoorKkT
import Derived.Test.YtaehdhmbgmbgiaaGreatDoorKkP4
set_option linter.all false
namespace Go.Proofs.YtaehdhmbgmbgiaaGreatDoor
open Go IntKind Tryz
set_option maxRecDepth 100000
def WQ n l{R}(h:uw n l=some R):bZ aP 113 [Q aq n,cy (aX) l] (tT [Q aX R.1,bS R.2]):=by
 refine cx func113 Y<|aQ<|wL (J Y) Y fun b=>ax dC fU Y fun b1=>bU<|bI<|aQ<|cL 1 k5 Y<|bo<|dc cz Y uo Y (J Y) hI<|cL 2 sH Y<|dc cz Y um Y (J Y) hI<|bI<|aQ<|bJ true aq 52<|ax (r:=f9) (x:=ic zq af3) dC Bb Y fun b2=>bI<|aC ?_;refine aD Y<|ca underlying212 Y<|T (bQ hI)<|bI<|an<|bm (k:=18) Y fun hN=>bM<|dm<|dm<|jL<|jL ?_;refine aI (MO (ay:=fun ls i n1 x out l1 c=>(l.drop i=ls)/\lg ls i n1 x out=some R) (Of:=fun _ i n1 x out l1 c=>[bx aq 52 b n1,bx aX 24 b1 x,bx f9 24 b2 (ic out (aY l1 c out.j'.length)),gh aq 52 l1 c out.j']) (Gf:=fun _ i n1 x out l1 c=>[(2,tV (aE b 0)),(4,tV (aE b1 0)),(6,tV (aE b2 0)),(18,cy (aX) l),(19,iQ l),(20,bS (i:Int))]) (fun i n1 x out l1 c h=>?_) (fun e tl ih i n1 x out l1 c h=>?_) l 0 (ai.mk n.Op (-1) (-1) n.Table n.P' n.Left n.J' n.Q' n.M' n.I' n.R' n.U') zq (⟨abS⟩:aZ) none 0 ⟨Y,h⟩) (bA Y)
 ·obtain⟨V,h⟩:=h;refine dq V Y<|aw<|aC<|cj h fun r h_ h=>?_;refine Cb 5 (ts:=[tV (aE b2 0),tO aq l1 c out.j',Q aq n1,Q aq r,cy (aq) ([r])]) mixed Y Y Y
   ⟨oq 6 Y Y (rP 0 ju Y Y Y),
   ⟨dy 66 0 Y Y (lK r0 o8 (.tail _ (.tail _ (.head _))) (.tail _ (.tail _ (.tail _ (.head _)))) Y (J Y)),
   ⟨oq 2 Y Y (bP fL Y Y bT (.head _) (J Y)),
   ⟨dy 68 2 Y Y (bG aia (U1 _ _ h_) ⟨(J Y),hI,Z⟩),
   ⟨dy 69 3 Y Y (aK (r:=aq) (ys:=[r]) (xs:=[.tmp 69]) oo fL Y Y Y Y Y ⟨(J Y),Z⟩),
   Z⟩⟩⟩⟩⟩ ?_
  refine fj<|cj h fun l2 w_ h=>nD fL Y Y Y Y oo Y Y (J Y) (J Y) w_ fun l3 c1=>cL 0 ju Y<|fj<|gL r0 Y (r9 _ _ _) Y (J Y) (Hf (Cx (J Y)))<|bI<|bc<|bo<|T (mz (q:=aX) (y:=({out with j':=l2}:aZ)) dC Y Y Y Y (.tail _ (.head _)) (fun _ _ _ ho h=>ue (o5 ho (.head _)) h) (J Y))<|cC h YN (HV _) (bN Y) fun r1 h=>bj Y<|bL Y Y<|bL Y Y<|iH Y<|aS Y<|aQ ?_;refine bj Y<|gw Y<|cn h Y (fun h=>?_) (fun h=>?_)
  ·exact aQ<|T (bW dC Qk fU Y)<|bj Y<|fj<|aW dC af Y<|bf Y<|am<|aF 4 Y<|aO<|aO<|aO<|so h▸br Y Y ⟨aU dC Y Y Y,aL Y,Z⟩
  ·exact iq<|aQ<|T (mz (q:=aX) (y:=({out with j':=l2}:aZ)) dC Y Y Y Y (.tail _ (.head _)) (fun _ _ _ ho h=>ue (o5 ho (.head _)) h) (J Y))<|fj<|aW dC af Y<|dd<|aF 4 Y<|aO<|aO<|aO<|so h▸br Y Y ⟨aU dC Y Y Y,aL Y,Z⟩
 ·obtain⟨V,h⟩:=h;refine dp V Y<|aC<|an<|aD Y<|d8 underlying212 dC Y (de V)<|ax dC fU Y fun b3=>iH Y<|aW dC af Y<|aA 8 Y<|bI<|aC ?_;refine aQ<|bq dC Y<|cC h YN (HV _) (bN Y) fun r2 h=>bj Y<|bL Y Y<|bL Y Y<|iH Y<|aS Y<|aD Y<|gw Y<|cn h Y (fun h=>?_) (fun h=>?_)
  ·exact aQ<|T (bW dC Qk fU Y)<|bj Y<|bo<|aW dC af Y<|bf Y<|am<|cR<|am<|cR<|aF 4 Y<|aO<|aO<|aO<|so h▸br Y Y ⟨aU dC Y Y Y,aL Y,Z⟩
  ·refine iq<|aQ<|cL 0 ju Y<|T (lK r0 o8 (.tail _ (.tail _ (.head _))) (.tail _ (.tail _ (.tail _ (.head _)))) Y (J Y))<|T (oH oo (kX (J Y)))<|aS Y<|bc<|bX ju fx r0 Y<|ca oo Y<|T (bQ hI)<|bI<|an<|bm (k:=38) Y fun hN1=>bM ?_;refine aI (kT (ay:=fun ls1 i1 L' l4 c2=>(e.j'.drop i1=ls1)/\rh (lg tl) i n1 x out ls1 L'=some R) (Of:=fun _ i1 L' l4 c2=>[bx aq 52 b n1,bx aX 24 b1 x,bx f9 24 b2 (ic L' (aY l4 c2 L'.j'.length)),gh aq 52 l4 c2 L'.j']) (Gf:=fun _ i1 L' l4 c2=>[(2,tV (aE b 0)),(4,tV (aE b1 0)),(6,tV (aE b2 0)),(7,bS (i:Int)),(11,iQ out.j'),(18,cy (aX) l),(19,iQ l),(20,bS (i:Int)),(38,cy (aq) e.j'),(39,iQ e.j'),(40,bS (i1:Int))]) (fun i1 L' l4 c2 h=>?_) (fun e1 tl1 ih1 i1 L' l4 c2 h=>?_) e.j' 0 out l1 c ⟨Y,h⟩) (bA Y)
   ·obtain⟨Z',h⟩:=h;refine dq Z' Y<|aw<|aD Y<|dA Y<|cn h Y (fun h=>?_) (fun h=>?_)
    ·refine aG<|cL 0 ju Y<|T (lK r0 o8 (.tail _ (.tail _ (.head _))) (.tail _ (.tail _ (.tail _ (.head _)))) Y (J Y))<|T (oH oo (kX (J Y)))<|T (fq (J Y) hI)<|cL 1 k5 Y<|aW cz uo Y<|bD<|cV V hN Y ?_;exact bg (aI (ih (i+1) (ai.mk n1.Op (i64.wrap ((L'.j'.length:Int)-1)) n1.B n1.Table n1.P' n1.Left n1.J' n1.Q' n1.M' n1.I' n1.R' n1.U') x L' l4 c2 ⟨cJ V,h⟩) (bA Y))
    ·refine aG<|cL 0 ju Y<|T (lK r0 o8 (.tail _ (.tail _ (.head _))) (.tail _ (.tail _ (.tail _ (.head _)))) Y (J Y))<|T (oH oo (kX (J Y)))<|T (fq (J Y) hI)<|cL 2 sH Y<|aW cz um Y<|bD<|cV V hN Y ?_;exact bg (aI (ih (i+1) (ai.mk n1.Op n1.A (i64.wrap ((L'.j'.length:Int)-1)) n1.Table n1.P' n1.Left n1.J' n1.Q' n1.M' n1.I' n1.R' n1.U') x L' l4 c2 ⟨cJ V,h⟩) (bA Y))
   ·obtain⟨Z',h⟩:=h;refine dp Z' Y<|aC<|an<|aQ<|d8 oo fL Y (de Z')<|ax fL lk Y fun b4=>aW fL af Y<|aA 13 Y<|bI<|cj h fun r3 v_ h=>?_;refine Cb 6 (ts:=[tV (aE b2 0),tO aq l4 c2 L'.j',Q aq e1,iQ out.j',Q aq r3,cy (aq) ([r3])]) mixed Y Y Y
     ⟨oq 6 Y Y (rP 0 ju Y Y Y),
     ⟨dy 44 0 Y Y (lK r0 o8 (.tail _ (.tail _ (.head _))) (.tail _ (.tail _ (.tail _ (.head _)))) Y (J Y)),
     ⟨oq 13 Y Y (np fL Y Y),
     ⟨eX Y Y,
     ⟨dX 46 2 47 3 Y Y Y (bG aia (U1 _ _ v_) ⟨(J Y),(J Y),Z⟩),
     ⟨dy 48 4 Y Y (aK (r:=aq) (ys:=[r3]) (xs:=[.tmp 48]) oo fL Y Y Y Y Y ⟨(J Y),Z⟩),
     Z⟩⟩⟩⟩⟩⟩ ?_
    refine fj<|cj h fun l5 q_l5 h=>nD fL Y Y Y Y oo Y Y (J Y) (J Y) q_l5 fun l6 c3=>cL 0 ju Y<|fj<|gL r0 Y (r9 _ _ _) Y (J Y) (Hf (Cx (J Y)))<|bD<|cV Z' hN1 Y<|bv<|bv<|cv<|cv ?_;exact bg (aI (ih1 (i1+1) ({L' with j':=l5}:aZ) l6 c3 ⟨cJ Z',h⟩) (bA Y))
def ahl n a1 b{R}(h:HJ n a1 b=some R):bZ aP 66 [Q aq n,Q aX a1,Q aX b] (tT [Q aX R.1,bS R.2]):=by
 refine cx func66 Y<|aQ<|cg Y<|cg Y<|cg Y<|ax dC fU Y fun b1=>bU<|bI<|aQ<|bq fL Y<|bq dC Y<|bq dC Y<|T (aK (r:=aX) (ys:=[a1,b]) (xs:=[.tmp 9,.tmp 10]) underlying212 dC Y Y Y Y Y ⟨(J Y),(J Y),Z⟩)<|cC h afS (WQ _ _) (bN Y) fun r h=>bL Y Y<|bL Y Y<|aW dC af Y<|aA 6 Y<|iH Y<|bD ?_;exact aw<|jm<|so h▸br Y Y ⟨aU dC Y Y Y,aL Y,Z⟩
def ahk n a1{R}(h:HK n a1=some R):bZ aP 67 [Q aq n,Q aX a1] (tT [Q aX R.1,bS R.2]):=by
 exact cx func67 Y<|aQ<|cg Y<|cg Y<|ax dC fU Y fun b=>bU<|bI<|aQ<|bq fL Y<|bq dC Y<|T (aK (r:=aX) (ys:=[a1]) (xs:=[.tmp 7]) underlying212 dC Y Y Y Y Y ⟨(J Y),Z⟩)<|cC h afS (WQ _ _) (bN Y) fun r h=>bL Y Y<|bL Y Y<|aW dC af Y<|aA 4 Y<|bf Y<|so h▸br Y Y ⟨aU dC Y Y Y,aL Y,Z⟩
def Mn n parts{R}(h:gZ n parts=some R):bZ aP 38 [Q aq n,cy (aN) parts] (tT [Q aN R.1,iF R.2]):=by
 refine cx func38 Y<|aQ<|cg Y<|ax cq iN Y fun b=>ck<|bI<|aQ<|T (bW dC Qk fU Y)<|ax dC fU Y fun b1=>aW dC af Y<|bU<|bI ?_;refine Y2 (ay:=fun e l=>qV parts e l=some R) (Of:=fun e l=>[bx aN 87 b He,bx aX 24 b1 l]) (Gf:=fun e l=>[(1,cy (aN) parts),(4,tV (aE b 0)),(6,tV (aE b1 0)),(7,bS e)]) (fun e l h=>?_) (fun K=>?_)
 ·skip;refine bc<|bj Y<|gw Y<|cn h Y (fun h=>?_) (fun h=>?_)
  ·exact aQ<|T (bW cq acP iN Y)<|aW cq af Y<|ck<|cX<|am<|aF 4 Y<|aO<|so h▸br Y Y ⟨aU cq Y Y Y,aL Y,Z⟩
  ·refine iq<|aC<|cj h fun e1 Y' h=>?_;refine Cb 11 (ts:=[Q aX l,tV (aE b1 0),cy (aq) l.j',tV (aE b1 0),cy (aq) l.j',iQ l.j',bS (i64.wrap ((l.j'.length:Int)-1)),bH aq e1,Q aq e1,cy (aN) parts,Q aN (⟨l,e1,parts⟩:aB)]) mixed Y Y Y
    ⟨oq 6 Y Y (bP dC Y Y bT (.tail _ (.head _)) (J Y)),
    ⟨oq 6 Y Y (rP 0 ju Y Y Y),
    ⟨dy 38 1 Y Y (bP r0 Y Y fx (.tail _ (.head _)) (J Y)),
    ⟨oq 6 Y Y (rP 0 ju Y Y Y),
    ⟨dy 40 3 Y Y (bP r0 Y Y fx (.tail _ (.head _)) (J Y)),
    ⟨dy 41 4 Y Y (XN oo Y),
    ⟨dy 42 5 Y Y (fq (J Y) hI),
    ⟨dX 39 2 43 6 Y Y Y (Ky oo fL Y Y Y Y'),
    ⟨fm 7 fL Y Y,
    ⟨eX Y Y,
    ⟨Kz 37 0 45 8 46 9 Y Y Y Y (bW (y:=(⟨l,e1,parts⟩:aB)) cq acP iN (⟨_,_,_,_,_,Y,X3,Y,(J Y),⟨_,_,_,_,_,Y,X2,Y,(J Y),⟨_,_,_,_,_,Y,X1,Y,(J Y),Y⟩⟩⟩)),
    Z⟩⟩⟩⟩⟩⟩⟩⟩⟩⟩⟩ ?_
   exact aW cq af Y<|ck<|cX<|aF 4 Y<|aO<|so h▸br Y Y ⟨aU cq Y Y Y,aL Y,Z⟩
 ·skip;refine aD Y<|ca uh Y<|dA Y<|cn h Y (fun h=>?_) (fun h=>?_)
  ·refine cj h fun e2 b_ h=>cj h fun e3 e_ h=>cj h fun r h_ h=>?_;refine jQ 14 [tc (Q aq n),tc (cy (aN) parts),tc (bH aN e2),tc (bH aX e2.D'),tc (Q aX e2.D'),tc (cy (aN) parts),tc (bH aN e3),tc (bH aX e3.D'),tc (Q aX e3.D'),tc (tT [Q aX r.1,bS r.2]),tc (tT [Q aX r.1,bS r.2]),tc (Q aX r.1),tc (bS r.2),tc (Bf)] [false,false,false,false,false,false,false,false,false,false,false,false,false,true] [([],fun _=>[bx aX 24 b1 zq,bx aN 87 b He]),([13],fun sg=>[bx aX 24 b1 r.1,bx aN 87 b He])] (fun _=>Y) mixed Y Y Y Y
    ⟨⟨[⟨2,fun _=>bH aq n,none⟩],_,[[]],Y,⟨(fun _=>Y),Z⟩,Y,Y,Y,Y,Y,⟨fun sg=>ae Y (np fL Y Y),Z⟩⟩,
    ⟨⟨[⟨1,fun _=>Q Nh parts,none⟩],_,[[]],Y,⟨(fun _=>Y),Z⟩,Y,Y,Y,Y,Y,⟨fun sg=>ae Y (l0 Y),Z⟩⟩,
    ⟨⟨[⟨14,fun _=>Q Nh parts,some 1⟩],_,[[]],Y,⟨(fun _=>Y),Z⟩,Y,Y,Y,Y,Y,⟨fun sg=>ae Y (bn uh cq Y (J Y) hI b_),Z⟩⟩,
    ⟨⟨[⟨15,fun _=>bH aN e2,some 2⟩],_,[[]],Y,⟨(fun _=>Y),Z⟩,Y,Y,Y,Y,Y,⟨fun sg=>ae Y (mW HS yx Y Y),Z⟩⟩,
    ⟨⟨[⟨16,fun _=>bH aX e2.D',some 3⟩],_,[[]],Y,⟨(fun _=>Y),Z⟩,Y,Y,Y,Y,Y,⟨fun sg=>ae Y (np dC Y Y),Z⟩⟩,
    ⟨⟨[⟨1,fun _=>Q Nh parts,none⟩],_,[[]],Y,⟨(fun _=>Y),Z⟩,Y,Y,Y,Y,Y,⟨fun sg=>ae Y (l0 Y),Z⟩⟩,
    ⟨⟨[⟨18,fun _=>Q Nh parts,some 5⟩],_,[[]],Y,⟨(fun _=>Y),Z⟩,Y,Y,Y,Y,Y,⟨fun sg=>ae Y (bn uh cq Y (J Y) hI e_),Z⟩⟩,
    ⟨⟨[⟨19,fun _=>bH aN e3,some 6⟩],_,[[]],Y,⟨(fun _=>Y),Z⟩,Y,Y,Y,Y,Y,⟨fun sg=>ae Y (mW HS yx Y Y),Z⟩⟩,
    ⟨⟨[⟨20,fun _=>bH aX e3.D',some 7⟩],_,[[]],Y,⟨(fun _=>Y),Z⟩,Y,Y,Y,Y,Y,⟨fun sg=>ae Y (np dC Y Y),Z⟩⟩,
    ⟨⟨[⟨13,fun _=>Q aq n,some 0⟩,⟨17,fun _=>Q aX e2.D',some 4⟩,⟨21,fun _=>Q aX e3.D',some 8⟩],_,[[]],Y,⟨(fun _=>Y),(fun _=>Y),(fun _=>Y),Z⟩,Y,Y,Y,Y,Y,⟨fun sg=>ae Y (bG al2 (ahl _ _ _ h_) ⟨(J Y),(J Y),(J Y),Z⟩),Z⟩⟩,
    ⟨⟨[⟨22,fun _=>tT [Q aX r.1,Q cM r.2],some 9⟩],_,[[]],Y,⟨(fun _=>Y),Z⟩,Y,Y,Y,Y,Y,⟨fun sg=>ae Y (l0 Y),Z⟩⟩,
    ⟨⟨[⟨12,fun _=>tT [Q aX r.1,Q cM r.2],some 10⟩],_,[[]],Y,⟨(fun _=>Y),Z⟩,Y,Y,Y,Y,Y,⟨fun sg=>ae Y (yi Y Y),Z⟩⟩,
    ⟨⟨[⟨12,fun _=>tT [Q aX r.1,Q cM r.2],some 10⟩],_,[[],[13]],Y,⟨(fun _=>Y),Z⟩,Y,Y,Y,Y,Y,⟨fun sg=>ae Y (yi Y Y),fun sg=>ae Y (yi Y Y),Z⟩⟩,
    ⟨⟨[⟨6,fun _=>tV (aE b1 0),none⟩,⟨23,fun _=>Q aX r.1,some 11⟩],_,[([],[13])],Y,⟨(fun _=>Y),(fun _=>Y),Z⟩,Y,Y,Y,Y,Y,⟨fun sg=>cw Y (jY dC Y (vq af) Y (J Y) (J Y)),Z⟩⟩,
    Z⟩⟩⟩⟩⟩⟩⟩⟩⟩⟩⟩⟩⟩⟩ (fun sg=>?_)
   refine(show RG _ _ _ _ [_,_] _ from ?_);refine iH Y<|bD<|bv ?_;exact cQ (K r.2 r.1 h) (bA Y)
  ·refine cj h fun e4 A_ h=>cj h fun r1 a_ h=>?_;refine jQ 10 [tc (Q aq n),tc (cy (aN) parts),tc (bH aN e4),tc (bH aX e4.D'),tc (Q aX e4.D'),tc (tT [Q aX r1.1,bS r1.2]),tc (tT [Q aX r1.1,bS r1.2]),tc (Q aX r1.1),tc (bS r1.2),tc (Bf)] [false,false,false,false,false,false,false,false,false,true] [([],fun _=>[bx aX 24 b1 zq,bx aN 87 b He]),([9],fun D_=>[bx aX 24 b1 r1.1,bx aN 87 b He])] (fun _=>Y) mixed Y Y Y Y
    ⟨⟨[⟨2,fun _=>bH aq n,none⟩],_,[[]],Y,⟨(fun _=>Y),Z⟩,Y,Y,Y,Y,Y,⟨fun D_=>ae Y (np fL Y Y),Z⟩⟩,
    ⟨⟨[⟨1,fun _=>Q Nh parts,none⟩],_,[[]],Y,⟨(fun _=>Y),Z⟩,Y,Y,Y,Y,Y,⟨fun D_=>ae Y (l0 Y),Z⟩⟩,
    ⟨⟨[⟨27,fun _=>Q Nh parts,some 1⟩],_,[[]],Y,⟨(fun _=>Y),Z⟩,Y,Y,Y,Y,Y,⟨fun D_=>ae Y (bn uh cq Y (J Y) hI A_),Z⟩⟩,
    ⟨⟨[⟨28,fun _=>bH aN e4,some 2⟩],_,[[]],Y,⟨(fun _=>Y),Z⟩,Y,Y,Y,Y,Y,⟨fun D_=>ae Y (mW HS yx Y Y),Z⟩⟩,
    ⟨⟨[⟨29,fun _=>bH aX e4.D',some 3⟩],_,[[]],Y,⟨(fun _=>Y),Z⟩,Y,Y,Y,Y,Y,⟨fun D_=>ae Y (np dC Y Y),Z⟩⟩,
    ⟨⟨[⟨26,fun _=>Q aq n,some 0⟩,⟨30,fun _=>Q aX e4.D',some 4⟩],_,[[]],Y,⟨(fun _=>Y),(fun _=>Y),Z⟩,Y,Y,Y,Y,Y,⟨fun D_=>ae Y (bG al1 (ahk _ _ a_) ⟨(J Y),(J Y),Z⟩),Z⟩⟩,
    ⟨⟨[⟨31,fun _=>tT [Q aX r1.1,Q cM r1.2],some 5⟩],_,[[]],Y,⟨(fun _=>Y),Z⟩,Y,Y,Y,Y,Y,⟨fun D_=>ae Y (l0 Y),Z⟩⟩,
    ⟨⟨[⟨25,fun _=>tT [Q aX r1.1,Q cM r1.2],some 6⟩],_,[[]],Y,⟨(fun _=>Y),Z⟩,Y,Y,Y,Y,Y,⟨fun D_=>ae Y (yi Y Y),Z⟩⟩,
    ⟨⟨[⟨25,fun _=>tT [Q aX r1.1,Q cM r1.2],some 6⟩],_,[[],[9]],Y,⟨(fun _=>Y),Z⟩,Y,Y,Y,Y,Y,⟨fun D_=>ae Y (yi Y Y),fun D_=>ae Y (yi Y Y),Z⟩⟩,
    ⟨⟨[⟨6,fun _=>tV (aE b1 0),none⟩,⟨32,fun _=>Q aX r1.1,some 7⟩],_,[([],[9])],Y,⟨(fun _=>Y),(fun _=>Y),Z⟩,Y,Y,Y,Y,Y,⟨fun D_=>cw Y (jY dC Y (vq af) Y (J Y) (J Y)),Z⟩⟩,
    Z⟩⟩⟩⟩⟩⟩⟩⟩⟩⟩ (fun D_=>?_)
   refine(show RG _ _ _ _ [_,_] _ from ?_);refine iH Y<|bD<|bv ?_;exact cQ (K r1.2 r1.1 h) (bA Y)
def afr{rec__:Option (List (Int×(aB->Bool->Option (aB×Int))))}(hr__: ∀{R:(List (Int×(aB->Bool->Option (aB×Int))))},rec__=some R->bZ aP 68 [] (KN (fun y:(aB->Bool->Option (aB×Int))=>zw aP Hk Hl (fun(x:aB×Bool)=>y x.1 x.2)) qh R)) t deep{R}(h:d9 rec__ t deep=some R):bZ aP 41 [Q aN t,iF deep] (tT [Q aN R.1,bS R.2]):=by
 refine cx func41 Y<|aQ<|cg Y<|ax cq iN Y fun b=>bU<|bI<|aC<|aC<|cj h fun r h_ h=>?_;refine nQ (ts:=[_,_,_,_,_,_]) mixed Y Y
  ⟨Q6 Y (bG al0 (hr__ h_) trivial),
  ⟨oq 2 Y Y (mW m9 gR Y Y),
  ⟨dy 8 1 Y Y (mW qF iD Y Y),
  ⟨fm 2 cz Y Y,
  ⟨dX 7 0 10 3 Y Y Y (CM (args:=(fun(x:aB×Bool)=>[Q aN x.1,Q rB x.2])) (res:=(fun(x:aB×Int)=>tT [Q aN x.1,Q cM x.2])) (F:=(fun y:(aB->Bool->Option (aB×Int))=>(fun(x:aB×Bool)=>y x.1 x.2))) underlying137 (eU me) alj (J Y) (pD (J Y))),
  ⟨dy 11 4 Y Y (Aj Y),
  Z⟩⟩⟩⟩⟩⟩ ?_
 refine aw<|aD Y<|T (Yg ⟨_,_,_,underlying93⟩ (J Y))<|cn h Y (fun h=>?_) (fun h=>?_)
 ·exact aD Y<|bq cq Y<|bj Y<|cj h fun r1 a_ h=>T (HH (args:=(fun(x:aB×Bool)=>[Q aN x.1,Q rB x.2])) (res:=(fun(x:aB×Int)=>tT [Q aN x.1,Q cM x.2])) (f:=(fun z=>((m5 r t.root.Op)).bind fun y=>((fun(x:aB×Bool)=>y x.1 x.2)) z)) (x:=((t,deep):aB×Bool)) (hFo (J Y)) a_ ⟨(J Y),(J Y),Z⟩)<|bL Y Y<|bL Y Y<|aW cq af Y<|bf Y<|am<|aF 4 Y<|so h▸br Y Y ⟨aU cq Y Y Y,aL Y,Z⟩
 ·exact iq<|aQ<|bq cq Y<|aW cq af Y<|dd<|aF 4 Y<|so h▸br Y Y ⟨aU cq Y Y Y,aL Y,Z⟩
def afs{rec__:Option (List (Int×(aB->Bool->Option (aB×Int))))}(hr__: ∀{R:(List (Int×(aB->Bool->Option (aB×Int))))},rec__=some R->bZ aP 68 [] (KN (fun y:(aB->Bool->Option (aB×Int))=>zw aP Hk Hl (fun(x:aB×Bool)=>y x.1 x.2)) qh R)) t{R}(h:pP rec__ t=some R):bZ aP 39 [Q aN t] (tT [Q aN R.1,iF R.2]):=by
 refine cx func39 Y<|aQ<|wL (J Y) Y fun b=>ax cq iN Y fun b1=>ck<|bI<|Ha<|aC<|Hb<|aw<|aC<|an<|bM<|dm ?_;refine aI (XH (ay:=fun n t1 x=>gj rec__ n t1 x=some R) (Of:=fun t1 x=>[bx aN 87 b t1,bx aN 87 b1 x]) (Gf:=fun t1 x=>[(1,tV (aE b 0)),(2,tV (aE b1 0))]) (fun t1 x h=>nn h) (fun n ih t1 x h=>?_) jl t He h) (bA Y);refine ig<|an<|aQ<|T (bP cq Y Y bT (.head _) (J Y))<|cC h ajx (afr hr__ _ _) (bN Y) fun r h=>bj Y<|bL Y Y<|bL Y Y<|ax cq iN Y fun b2=>aW cq af Y<|aA 4 Y<|aS Y<|bc<|bj Y<|bI<|an<|aC ?_;refine aG<|dA Y<|aS Y<|px h Y (fun h=>?_) (fun h=>?_)
 ·exact ji<|cT Y<|bh<|cT Y<|bh<|d5<|aw<|aQ<|T (bP cq Y Y bT (.head _) (J Y))<|bo<|aW cq af Y<|ck<|cX<|u5<|aF 2 Y<|aO<|so h▸br Y Y ⟨aU cq Y Y Y,aL Y,Z⟩
 ·refine aQ<|dA Y<|aS Y<|px h Y (fun h=>?_) (fun h=>?_)
  ·exact aQ<|T (bP cq Y Y bT (.head _) (J Y))<|bo<|aW cq af Y<|ck<|cX<|cR<|cR<|cR<|u5<|aF 2 Y<|aO<|so h▸br Y Y ⟨aU cq Y Y Y,aL Y,Z⟩
  ·refine bO<|bt<|aw<|aG<|bq cq Y<|aW cq af Y<|bD<|bt ?_;exact bg (aI (ih r.1 x h) (bA Y))
def adb s f{R}(h:jS s f=some R):bZ aP 263 [cy (aJ) s,(eD aP abW nG (fun(x:av)=>f x))] (bS R):=by
 refine cx func263 Y<|aQ<|bU<|bI<|bc<|bj Y<|ca j6 Y<|T (bQ hI)<|bI<|an<|bm (k:=6) Y fun hN=>bM ?_;refine aI (gG (ay:=fun ls i=>(s.drop i=ls)/\eH f ls i=some R) (Of:=fun _ i=>[]) (Gf:=fun _ i=>[(0,cy (aJ) s),(1,(eD aP abW nG (fun(x:av)=>f x))),(7,iQ s),(8,bS (i:Int))]) (fun i h=>?_) (fun e tl ih i h=>?_) s 0 ⟨Y,h⟩) (bA Y)
 ·obtain⟨V,h⟩:=h;exact dq V Y<|aw<|aQ<|dd<|so h▸aM Y Y
 ·obtain⟨V,h⟩:=h;refine dp V Y<|aC<|an<|aD Y<|aS Y<|aD Y<|bj Y<|bj Y<|F7 j6 dF Y (de V) ?_;refine bq dF Y<|cj h fun r h_ h=>T (hZ (args:=abW) (res:=F4) (f:=(fun(x:av)=>f x)) (x:=((e):av)) (J Y) h_ ⟨(J Y),Z⟩)<|cn h Y (fun h=>?_) (fun h=>?_)
  ·exact aD Y<|bf Y<|cR<|am<|cR<|so h▸aM Y Y
  ·refine bO<|cV V hN Y ?_;exact bg (aI (ih (i+1) ⟨cJ V,h⟩) (bA Y))
def adq s f{R}(h:fX s f=some R):bZ aP 226 [cy (aJ) s,(eD aP abW nG (fun(x:av)=>f x))] (iF R):=by
 exact cx func226 Y<|aQ<|ck<|bI<|aD Y<|bj Y<|cC h ajH (adb _ _) (bN Y) fun r h=>T (iZ (J Y) hI)<|bf Y<|so h▸aM Y Y
def adp n{R}(h:xd n=some R):bZ aP 227 [Q aJ n] (iF R):=by
 exact cx func227 Y<|aQ<|cg Y<|ck<|bI<|aQ<|bX lE fy cz Y<|cC h afE (WD _) (bN Y) fun r h=>bf Y<|so h▸aM Y Y
def QB e{R}(h:th e=some R):bZ aP 168 [Q ap e] (iF R):=by
 refine cx func168 Y<|aQ<|cg Y<|ck<|bI<|aQ<|bq bR Y<|cC h O5 (DH _) (bN Y) fun r h=>dA Y<|bj Y<|cj h fun t r_ h=>bk Y (gU fh dV Y Y)<|bk Y (gK nH Y Y) ?_;obtain⟨r1,g_,s_⟩:=og r_;have k_:=fun H=>(g_ H).1;exact bk Y (fun hg=>bG ajU (adq _ _ (k_ hg)) ⟨(db Y hg),(A3 ajT fun x y h=>adp _ h),Z⟩)<|bk Y (yH Y)<|T (ee (J Y) (fun H=>(db Y H)) (fun H=>(g_ H).2) s_)<|bf Y<|so h▸aM Y Y
def WC l{R}(h:wy l=some R):bZ aP 229 [cy (ap) l] (tT [bS R.1,bS R.2]):=by
 refine cx func229 Y<|aQ<|bU<|bU<|bI<|aQ<|bU<|bI<|bc<|bj Y<|ca qp Y<|T (bQ hI)<|bI<|an<|bm (k:=8) Y fun hN=>bM ?_;refine aI (jP (ay:=fun ls i n=>(l.drop i=ls)/\rl ls n=some R) (Of:=fun _ i n=>[]) (Gf:=fun _ i n=>[(4,bS n),(8,cy (ap) l),(9,iQ l),(10,bS (i:Int))]) (fun i n h=>?_) (fun e tl ih i n h=>?_) l 0 0 ⟨Y,h⟩) (bA Y)
 ·obtain⟨V,h⟩:=h;exact dq V Y<|aw<|aD Y<|iH Y<|dd<|so h▸dM Y Y Y
 ·obtain⟨V,h⟩:=h;refine dp V Y<|aC<|an<|aQ<|d8 qp bR Y (de V)<|ax bR dQ Y fun b=>aW bR af Y<|aA 6 Y<|bI<|bc ?_;refine bq bR Y<|cC h O5 (DH _) (bN Y) fun r h=>aS Y<|aD Y<|gw Y<|cn h Y (fun h=>?_) (fun h=>?_)
  ·exact aD Y<|bU<|bf Y<|am<|cR<|am<|cR<|so h▸dM Y Y Y
  ·refine iq<|aG<|bj Y<|bX fh dV nH Y<|ca j6 Y<|T (mC (J Y) (J Y))<|iH Y<|bD<|cV V hN Y ?_;exact bg (aI (ih (i+1) (i64.wrap (n+(e.j'.length:Int))) ⟨cJ V,h⟩) (bA Y))
def ahC(l:Option Nat)(c:Nat) out e{R}(h:DI out e=some R):dZ aP 264 [rr l c out,Q ap e] [gh aJ 101 l c out] (fun i:OI=>tO aJ (i.h 0).1 (i.h 0).2 R) (fun i=>[gh aJ 101 (i.h 0).1 (i.h 0).2 R]):=by
 refine dZ.of func264 Y Y Y fun w0 S0=>abO 0 Y<|aQ<|cg Y<|bJ false aJ 101<|T (bu tK)<|bI<|aD Y<|T (oH j6 (kX (J Y)))<|aS Y<|bc<|bX fh dV nH Y<|ca j6 Y<|T (bQ hI)<|bD ?_;refine aw<|an<|bm (k:=11) Y fun hN=>bM<|pI ?_;refine aI (kT (ay:=fun ls i L' l1 c1=>(e.j'.drop i=ls)/\mU out ls L'=some R) (Of:=fun _ i L' l1 c1=>[gh aJ 101 l1 c1 L']) (Gf:=fun _ i L' l1 c1=>[(0,tO aJ l1 c1 L'),(5,iQ out),(11,cy (aJ) e.j'),(12,iQ e.j'),(13,bS (i:Int))]) (fun i L' l1 c1 h=>?_) (fun e1 tl ih i L' l1 c1 h=>?_) e.j' 0 out l c ⟨Y,h⟩) (bA Y)
 ·obtain⟨V,h⟩:=h;exact dq V Y<|aw<|aD Y<|bf Y<|so h▸nO Y (oi l1 c1) Y Y (fun _ _ h=>h)
 ·obtain⟨V,h⟩:=h;refine dp V Y<|aC<|an<|aQ<|d8 j6 dF Y (de V)<|ax dF mg Y fun b=>aW dF af Y<|bI ?_;refine j8 (ay:=fun n=>vJ out (mU out tl) L' n=some R) (Of:=fun n=>[gh aJ 101 l1 c1 L',bx aJ 101 b n]) (Gf:=fun n=>[(0,tO aJ l1 c1 L'),(5,iQ out),(7,tV (aE b 0)),(11,cy (aJ) e.j'),(12,iQ e.j'),(13,bS (i:Int))]) (fun n h=>?_) (fun K=>?_)
  ·skip;refine j8 (ay:=fun n1=>vI (mU out tl) L' n1=some R) (Of:=fun n1=>[gh aJ 101 l1 c1 L',bx aJ 101 b n1]) (Gf:=fun n1=>[(0,tO aJ l1 c1 L'),(5,iQ out),(7,tV (aE b 0)),(11,cy (aJ) e.j'),(12,iQ e.j'),(13,bS (i:Int))]) (fun n1 h=>?_) (fun K1=>?_)
   ·skip;refine aG<|bj Y<|T (bP dF Y Y bT (.tail _ (.head _)) (J Y))<|T (aK (r:=aJ) (ys:=[n1]) (xs:=[.tmp 34]) j6 dF Y Y Y Y Y ⟨(J Y),Z⟩)<|cj h fun z_ C_ h=>nD dF Y Y Y Y j6 Y Y (J Y) (J Y) C_ fun l2 c2=>iH Y<|bD<|cV V hN Y<|bv<|aO ?_;exact bg (aI (ih (i+1) z_ l2 c2 ⟨cJ V,h⟩) (bA Y))
   ·skip;refine aQ<|cL 2 rJ Y<|T (bP cz Y Y qC (.tail _ (.head _)) (J Y))<|T (iZ (J Y) hI)<|cn h Y (fun h=>?_) (fun h=>?_)
    ·refine aG<|cL 2 rJ Y<|T (bP cz Y Y qC (.tail _ (.head _)) (J Y))<|bj Y<|T (mC (J Y) (J Y))<|cL 2 rJ Y<|bo<|aW cz wl Y<|bD<|bv ?_;exact cQ (K1 (av.mk n.Tag n.L (i64.wrap (n.R+(out.length:Int))) n.X' n.Value) h) (bA Y)
    ·refine bO ?_;exact cQ (K1 n h) (bA Y)
  ·skip;refine aQ<|cL 1 rK Y<|T (bP cz Y Y qD (.head _) (J Y))<|T (iZ (J Y) hI)<|cn h Y (fun h=>?_) (fun h=>?_)
   ·refine aG<|cL 1 rK Y<|T (bP cz Y Y qD (.head _) (J Y))<|bj Y<|T (mC (J Y) (J Y))<|cL 1 rK Y<|aW cz wm Y<|bD<|bv ?_;exact cQ (K (av.mk e1.Tag (i64.wrap (e1.L+(out.length:Int))) e1.R e1.X' e1.Value) h) (bA Y)
   ·refine bO<|bv ?_;exact cQ (K e1 h) (bA Y)
