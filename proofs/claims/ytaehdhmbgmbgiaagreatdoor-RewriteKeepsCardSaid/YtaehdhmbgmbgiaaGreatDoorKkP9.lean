import Derived.Test.YtaehdhmbgmbgiaaGreatDoorKkT
import Derived.Test.YtaehdhmbgmbgiaaGreatDoorKkP8
set_option linter.all false
namespace Go.Proofs.YtaehdhmbgmbgiaaGreatDoor
open Go IntKind Tryz
set_option maxRecDepth 100000
def ac6: ∀(fu:Nat) (l:aZ) {R:aB} (h:lV fu l=some R),bZ aP 40 [Q aX l] (Q aN R):=by
 intro fu
 induction fu with
 |zero=>intro l R h;exact(nn h).elim
 |succ fu ihR=>
  intro l R h;refine cx func40 Y<|aQ<|cg Y<|ax cq iN Y fun b=>bI<|aC<|abP true aN 87<|cj h fun e i_ h=>?_;refine jQ 11 [tc (Q aX l),tc (bH Ni l.j'),tc (cy (aq) l.j'),tc (bH Ni l.j'),tc (cy (aq) l.j'),tc (iQ l.j'),tc (bS (i64.wrap ((l.j'.length:Int)-1))),tc (bH aq e),tc (Q aq e),tc (Q pM (uM (⟨l,e,[]⟩:aB) (aY none 0 (Rq.length)))),([10],fun s=>tV (aE ((s.getD 0 tA).h 0).2 0))] [false,false,false,false,false,false,false,false,false,false,true] [([],fun _=>[gh aN 87 none 0 Rq,bx aN 87 b He]),([10],fun sg=>[bx aN 87 ((sg 10).h 0).2 He,gh aN 87 none 0 Rq,bx aN 87 b He])] (fun _=>Y) mixed Y Y Y Y
   ⟨⟨[⟨1,fun _=>bH aX l,none⟩],_,[[],[10]],Y,⟨(fun _=>Y),Z⟩,Y,Y,Y,Y,Y,⟨fun sg=>ae Y (np dC Y Y),fun sg=>ae Y (np dC Y Y),Z⟩⟩,
   ⟨⟨[⟨1,fun _=>bH aX l,none⟩],_,[[],[10]],Y,⟨(fun _=>Y),Z⟩,Y,Y,Y,Y,Y,⟨fun sg=>ae Y (mW ju fx Y Y),fun sg=>ae Y (mW ju fx Y Y),Z⟩⟩,
   ⟨⟨[⟨9,fun _=>bH Ni l.j',some 1⟩],_,[[],[10]],Y,⟨(fun _=>Y),Z⟩,Y,Y,Y,Y,Y,⟨fun sg=>ae Y (np r0 Y Y),fun sg=>ae Y (np r0 Y Y),Z⟩⟩,
   ⟨⟨[⟨1,fun _=>bH aX l,none⟩],_,[[],[10]],Y,⟨(fun _=>Y),Z⟩,Y,Y,Y,Y,Y,⟨fun sg=>ae Y (mW ju fx Y Y),fun sg=>ae Y (mW ju fx Y Y),Z⟩⟩,
   ⟨⟨[⟨11,fun _=>bH Ni l.j',some 3⟩],_,[[],[10]],Y,⟨(fun _=>Y),Z⟩,Y,Y,Y,Y,Y,⟨fun sg=>ae Y (np r0 Y Y),fun sg=>ae Y (np r0 Y Y),Z⟩⟩,
   ⟨⟨[⟨12,fun _=>Q Ni l.j',some 4⟩],_,[[],[10]],Y,⟨(fun _=>Y),Z⟩,Y,Y,Y,Y,Y,⟨fun sg=>ae Y (XN oo Y),fun sg=>ae Y (XN oo Y),Z⟩⟩,
   ⟨⟨[⟨13,fun _=>Q cM (l.j'.length:Int),some 5⟩],_,[[],[10]],Y,⟨(fun _=>Y),Z⟩,Y,Y,Y,Y,Y,⟨fun sg=>ae Y (fq (J Y) hI),fun sg=>ae Y (fq (J Y) hI),Z⟩⟩,
   ⟨⟨[⟨10,fun _=>Q Ni l.j',some 2⟩,⟨14,fun _=>Q cM (i64.wrap ((l.j'.length:Int)-1)),some 6⟩],_,[[],[10]],Y,⟨(fun _=>Y),(fun _=>Y),Z⟩,Y,Y,Y,Y,Y,⟨fun sg=>ae Y (Ky oo fL Y Y Y i_),fun sg=>ae Y (Ky oo fL Y Y Y i_),Z⟩⟩,
   ⟨⟨[⟨15,fun _=>bH aq e,some 7⟩],_,[[],[10]],Y,⟨(fun _=>Y),Z⟩,Y,Y,Y,Y,Y,⟨fun sg=>ae Y (np fL Y Y),fun sg=>ae Y (np fL Y Y),Z⟩⟩,
   ⟨⟨[⟨8,fun _=>Q aX l,some 0⟩,⟨16,fun _=>Q aq e,some 8⟩],_,[[],[10]],Y,⟨(fun _=>Y),(fun _=>Y),Z⟩,Y,Y,Y,Y,Y,⟨fun sg=>ae Y (bW (y:=uM (⟨l,e,[]⟩:aB) (aY none 0 (Rq.length))) cq acP NY (⟨_,_,_,_,_,Y,IF,Y,(J Y),⟨_,_,_,_,_,Y,IE,Y,(J Y),Y⟩⟩)),fun sg=>ae Y (bW (y:=uM (⟨l,e,[]⟩:aB) (aY none 0 (Rq.length))) cq acP NY (⟨_,_,_,_,_,Y,IF,Y,(J Y),⟨_,_,_,_,_,Y,IE,Y,(J Y),Y⟩⟩)),Z⟩⟩,
   ⟨⟨[],_,[([],[10])],Y,Z,Y,Y,Y,Y,Y,⟨fun sg=>cw Y (kQ cq iN),Z⟩⟩,
   Z⟩⟩⟩⟩⟩⟩⟩⟩⟩⟩⟩ (fun sg=>?_)
  refine(show RG _ _ _ _ [_,_,_] _ from ?_);refine bo<|bo<|gL (r' :=pM) cq Y (mu Y) Y (J Y) (J Y)<|bI<|bc<|cL 1 m9 Y<|cL 2 k5 Y<|T (bP cz Y Y (pZ IY eE) (.head _) (J Y))<|cL 1 m9 Y<|cL 3 sH Y<|T (bP cz Y Y (pZ IY lC) (.head _) (J Y))<|T (AG (r:=cM) (ys:=[e.A,e.B]) (xs:=[.tmp 20,.tmp 23]) Cq cz Y Gg Y Y ⟨(J Y),(J Y),Z⟩)<|T (bQ hI)<|bI<|an<|bM<|dm<|dm<|gS ?_;refine aI (XB (ay:=fun k i t l1 c=>(2-i=k)/\fI (lV fu) l e k i t=some R) (Of:=fun _ i t l1 c=>[bx aN 87 b He,bx pM 87 ((sg 10).h 0).2 (uM t (aY l1 c t.parts.length)),gh aN 87 l1 c t.parts]) (Gf:=fun _ i t l1 c=>[(1,bH aX l),(2,tV (aE b 0)),(3,tV (aE ((sg 10).h 0).2 0)),(24,Q Ps ([e.A,e.B])),(25,bS (i:Int))]) (fun i t l1 c h=>?_) (fun k1 ih i t l1 c h=>?_) 2 0 (⟨l,e,Rq⟩:aB) none 0 ⟨Y,h⟩) (bA Y)
  ·obtain⟨V,h⟩:=h;refine ig<|aQ<|T (jk (J Y) hI)<|bI<|aC<|vV (J Y) (Z1 V)<|ji<|bh<|bh<|d5<|aw<|aQ<|eF<|T (mz (q:=aN) (y:=t) cq Y Y Y Y (.tail _ (.tail _ (.head _))) (fun _ _ _ ho h=>Mu (o5 ho (.head _)) h) (J Y))<|bo<|aW cq af Y<|aA 2 Y<|cX<|aO ?_;exact aO<|so h▸iM Y cq Y Y Y
  ·obtain⟨V,h⟩:=h;refine ig<|aQ<|T (jk (J Y) hI)<|bI<|aC<|vU (J Y) (Z0 V)<|iq<|aC<|an<|aQ<|cj h fun e2 b_ h=>T (Ov Cq cz Y Y (J Y) (J Y) b_)<|aS Y<|aD Y<|T (iZ (J Y) hI)<|bD ?_;refine aw<|px h Y (fun h=>?_) (fun h=>?_)
   ·refine aQ<|bq dC Y<|bj Y<|cC h ajA (aaM _ _) (bN Y) fun r h=>bj Y<|bL Y Y<|bL Y Y<|ax dC fU Y fun b1=>aW dC af Y<|aA 6 Y<|aS Y<|cj h fun r1 a_ h=>?_;refine Cb 5 (ts:=[tV (aE ((sg 10).h 0).2 13),tO aN l1 c t.parts,Q aX r.1,Q aN r1,cy (aN) ([r1])]) mixed Y Y Y
     ⟨oq 3 Y Y (rP 13 rt Y Y Y),
     ⟨dy 36 0 Y Y (lK Cd SV (.tail _ (.head _)) (.tail _ (.tail _ (.head _))) Y (J Y)),
     ⟨oq 6 Y Y (np dC Y Y),
     ⟨dy 38 2 Y Y (bG aeK (ihR _ a_) ⟨(J Y),Z⟩),
     ⟨dy 39 3 Y Y (aK (r:=aN) (ys:=[r1]) (xs:=[.tmp 39]) uh cq Y Y Y Y Y ⟨(J Y),Z⟩),
     Z⟩⟩⟩⟩⟩ ?_
    refine eF<|cj h fun l2 w_ h=>nD cq Y Y Y Y uh Y Y (J Y) (J Y) w_ fun l3 c1=>cL 13 rt Y<|eF<|gL Cd Y (D5 _ _ _) Y (J Y) (Hf (Cx (J Y)))<|bD<|bt<|aw<|aG<|T (xZ (Sn V (by decide)) (J Y) hI)<|bj Y<|bD<|bv<|bv<|aH ?_;exact bg (aI (ih (i+1) ({t with parts:=l2}:aB) l3 c1 ⟨Sl V,h⟩) (bA Y))
   ·refine bO<|bt<|aw<|aG<|T (xZ (Sn V (by decide)) (J Y) hI)<|bj Y<|bD ?_;exact bg (aI (ih (i+1) t l1 c ⟨Sl V,h⟩) (bA Y))
def U6 l{R}(h:wE l=some R):bZ aP 40 [Q aX l] (Q aN R):=ac6 jl l h
def afp l{R}(h:oX l=some R):bZ aP 8 [Q aX l] (tT [Q aX R.1,bS R.2]):=by
 refine cx func8 Y<|aQ<|cg Y<|ax dC fU Y fun b=>bU<|bI<|bc<|bq dC Y<|cC h YN (HV _) (bN Y) fun r h=>bj Y<|bL Y Y<|bL Y Y<|iH Y<|aS Y<|aD Y ?_;refine gw Y<|cn h Y (fun h=>?_) (fun h=>?_)
 ·exact aQ<|T (bW dC Qk fU Y)<|bj Y<|aW dC af Y<|bf Y<|am<|aF 2 Y<|so h▸br Y Y ⟨aU dC Y Y Y,aL Y,Z⟩
 ·refine iq<|aQ<|ax (r:=rV) (x:= .nilFunc) Zp (fun _=>⟨Y,Y⟩) Y fun b1=>bI<|aQ<|T (ZU (J Y))<|zR (jY (r' :=rV) (x' :=CA 37 b1) (q:=rV) (y:=CA 37 b1) Zp Y (mu Y) Y (J Y) (hSV (J Y))) fun _=>Vs 6 Y<|bI<|aC<|cj h fun r1 a_ h=>cj h fun r2 d_ h=>?_;refine jQ 9 [tc (tV (CA 37 b1)),tc (Q aX l),tc (Q aN r1),tc (tT [Q aN r2.1,iF r2.2]),tc (tT [Q aN r2.1,iF r2.2]),tc (Q aN r2.1),tc (iF r2.2),([7],fun s=>tV (aE ((s.getD 0 tA).h 0).2 0)),tc (Bf)] [false,false,false,false,false,false,false,true,true] [([],fun _=>[bx aX 24 b zq]),([7],fun sg=>[bx aN 87 ((sg 7).h 0).2 He,bx aX 24 b zq]),([7,8],fun sg=>[bx aN 87 ((sg 7).h 0).2 r2.1,bx aX 24 b zq])] (fun _=>Y) mixed Y Y Y Y
   ⟨⟨[⟨6,fun _=>Js 37 b1,none⟩],_,[[],[7]],Y,⟨(fun _=>Y),Z⟩,Y,Y,Y,Y,Y,⟨fun sg=>ae Y (LE Zp (J Y)),fun sg=>ae Y (LE Zp (J Y)),Z⟩⟩,
   ⟨⟨[⟨1,fun _=>bH aX l,none⟩],_,[[],[7]],Y,⟨(fun _=>Y),Z⟩,Y,Y,Y,Y,Y,⟨fun sg=>ae Y (np dC Y Y),fun sg=>ae Y (np dC Y Y),Z⟩⟩,
   ⟨⟨[⟨21,fun _=>Q aX l,some 1⟩],_,[[],[7]],Y,⟨(fun _=>Y),Z⟩,Y,Y,Y,Y,Y,⟨fun sg=>ae Y (bG aeK (U6 _ a_) ⟨(J Y),Z⟩),fun sg=>ae Y (bG aeK (U6 _ a_) ⟨(J Y),Z⟩),Z⟩⟩,
   ⟨⟨[⟨20,fun _=>tV (CA 37 b1),some 0⟩,⟨22,fun _=>Q aN r1,some 2⟩,⟨6,fun _=>Js 37 b1,none⟩],_,[[],[7]],Y,⟨(fun _=>Y),(fun _=>Y),(fun _=>Y),Z⟩,Y,Y,Y,Y,Y,⟨fun sg=>ae Y (LF (ts:=[Q aN r1]) (J Y) (cp:= .tmp 6) (J Y) aig (aaK _ _ d_) ⟨(J Y),Z⟩),fun sg=>ae Y (LF (ts:=[Q aN r1]) (J Y) (cp:= .tmp 6) (J Y) aig (aaK _ _ d_) ⟨(J Y),Z⟩),Z⟩⟩,
   ⟨⟨[⟨23,fun _=>tT [Q aN r2.1,Q rB r2.2],some 3⟩],_,[[],[7]],Y,⟨(fun _=>Y),Z⟩,Y,Y,Y,Y,Y,⟨fun sg=>ae Y (l0 Y),fun sg=>ae Y (l0 Y),Z⟩⟩,
   ⟨⟨[⟨19,fun _=>tT [Q aN r2.1,Q rB r2.2],some 4⟩],_,[[],[7]],Y,⟨(fun _=>Y),Z⟩,Y,Y,Y,Y,Y,⟨fun sg=>ae Y (yi Y Y),fun sg=>ae Y (yi Y Y),Z⟩⟩,
   ⟨⟨[⟨19,fun _=>tT [Q aN r2.1,Q rB r2.2],some 4⟩],_,[[],[7],[7,8]],Y,⟨(fun _=>Y),Z⟩,Y,Y,Y,Y,Y,⟨fun sg=>ae Y (yi Y Y),fun sg=>ae Y (yi Y Y),fun sg=>ae Y (yi Y Y),Z⟩⟩,
   ⟨⟨[],_,[([],[7])],Y,Z,Y,Y,Y,Y,Y,⟨fun sg=>cw Y (kQ cq iN),Z⟩⟩,
   ⟨⟨[⟨7,fun sg=>tV (aE ((sg 7).h 0).2 0),some 7⟩,⟨24,fun _=>Q aN r2.1,some 5⟩],_,[([7],[7,8])],Y,⟨(fun _=>Y),(fun _=>Y),Z⟩,Y,Y,Y,Y,Y,⟨fun sg=>cw Y (jY cq Y (vq af) Y (J Y) (J Y)),Z⟩⟩,
   Z⟩⟩⟩⟩⟩⟩⟩⟩⟩ (fun sg=>?_)
  refine(show RG _ _ _ _ [_,_] _ from ?_);refine aA 7 Y<|aS Y<|bc<|bj Y<|T (jj (J Y))<|cn h Y (fun h=>?_) (fun h=>?_)
  ·exact aQ<|bq dC Y<|aW dC af Y<|dd<|am<|aF 2 Y<|so h▸br Y Y ⟨aU dC Y Y Y,aL Y,Z⟩
  ·exact iq<|aQ<|bX HS yx dC Y<|aW dC af Y<|dd<|aF 2 Y<|so h▸br Y Y ⟨aU dC Y Y Y,aL Y,Z⟩
def afo l{R}(h:uJ l=some R):bZ aP 9 [Q aX l] (tT [Q aX R.1,iF R.2.1,bS R.2.2]):=by
 refine cx func9 Y<|aQ<|cg Y<|ax dC fU Y fun b=>ck<|bU<|bI<|bc<|bq dC Y<|cC h YN (HV _) (bN Y) fun r h=>bj Y<|bL Y Y<|bL Y Y<|iH Y<|aS Y<|aQ ?_;refine bj Y<|gw Y<|cn h Y (fun h=>?_) (fun h=>?_)
 ·exact aQ<|T (bW dC Qk fU Y)<|bj Y<|aW dC af Y<|ck<|bf Y<|am<|aF 2 Y<|so h▸br Y Y ⟨aU dC Y Y Y,aL Y,aL Y,Z⟩
 ·refine iq<|aQ<|bq dC Y<|cC h aeK (U6 _) (bN Y) fun r1 h=>cC h ajx (ahy _ _) (bN Y) fun r2 h=>bj Y<|bL Y Y<|bL Y Y<|ax cq iN Y fun b1=>aW cq af Y<|aA 7 Y<|aS Y<|bc<|bj Y<|gw Y<|bD ?_;refine aw<|px h Y (fun h=>?_) (fun h=>?_)
  ·exact aQ<|bq dC Y<|aW dC af Y<|ck<|dd<|am<|aF 2 Y<|so h▸br Y Y ⟨aU dC Y Y Y,aL Y,aL Y,Z⟩
  ·exact iq<|aQ<|bX HS yx dC Y<|aW dC af Y<|ck<|dd<|aF 2 Y<|so h▸br Y Y ⟨aU dC Y Y Y,aL Y,aL Y,Z⟩
def Ft root l{R}(h:sm root l=some R):bZ aP 47 [Q aJ root,cy (ap) l] (Q ap R):=by
 refine cx func47 Y<|aQ<|wL (J Y) Y fun b=>ax bR dQ Y fun b1=>bI<|aQ<|bJ true aJ 101<|ax (r:=fQ) (x:=gQ tB (aY none 0 (Pt.length))) bR wg Y fun b2=>bI<|aQ<|cL 1 rK Y<|fj<|dc cz Y wm Y (J Y) hI<|cL 2 rJ Y<|dc cz Y wl Y (J Y) hI<|bI<|aC<|aC ?_;refine aG<|bj Y<|ca qp Y<|T (bQ hI)<|bI<|an<|bm (k:=13) Y fun hN=>bM<|gS<|gS<|jL<|jL ?_;refine aI (qe (ay:=fun ls i lU out l1 c=>(l.drop i=ls)/\rd ls i lU out=some R) (Of:=fun _ i lU out l1 c=>[bx aJ 101 b lU,bx ap 47 b1 tB,bx fQ 47 b2 (gQ out (aY l1 c out.j'.length)),gh aJ 101 l1 c out.j']) (Gf:=fun _ i lU out l1 c=>[(2,tV (aE b 0)),(4,tV (aE b1 0)),(5,tV (aE b2 0)),(13,cy (ap) l),(14,iQ l),(15,bS (i:Int))]) (fun i lU out l1 c h=>?_) (fun e tl ih i lU out l1 c h=>?_) l 0 (av.mk root.Tag (-1) (-1) root.X' root.Value) (⟨Pt⟩:au) none 0 ⟨Y,h⟩) (bA Y)
 ·obtain⟨V,h⟩:=h;refine dq V Y<|aw<|aQ<|cL 0 fh Y<|T (lK nH m8 (.tail _ (.tail _ (.head _))) (.tail _ (.tail _ (.tail _ (.head _)))) Y (J Y))<|T (bP dF Y Y bT (.head _) (J Y))<|T (aK (r:=aJ) (ys:=[lU]) (xs:=[.tmp 68]) j6 dF Y Y Y Y Y ⟨(J Y),Z⟩)<|fj<|cj h fun l2 w_ h=>nD dF Y Y Y Y j6 Y Y (J Y) (J Y) w_ fun l3 c1=>cL 0 fh Y<|fj ?_;exact gL nH Y (xG _ _ _) Y (J Y) (Hf (Cx (J Y)))<|bI<|aQ<|bo<|T (mz (q:=ap) (y:=({out with j':=l2}:au)) bR Y Y Y Y (.tail _ (.head _)) (fun _ _ _ ho h=>vQ (o5 ho (.head _)) h) (J Y))<|fj<|aW bR af Y<|aA 4 Y<|cX<|aO<|aO<|aO<|so h▸iM Y bR Y Y Y
 ·obtain⟨V,h⟩:=h;refine dp V Y<|aC<|an<|aD Y<|d8 qp bR Y (de V)<|ax bR dQ Y fun b3=>iH Y<|aW bR af Y<|aA 7 Y<|bI<|aC ?_;refine aG<|cL 0 fh Y<|T (lK nH m8 (.tail _ (.tail _ (.head _))) (.tail _ (.tail _ (.tail _ (.head _)))) Y (J Y))<|T (oH j6 (kX (J Y)))<|aS Y<|bc<|bX fh dV nH Y<|ca j6 Y<|T (bQ hI)<|bI<|an<|bm (k:=24) Y fun hN1=>bM ?_;refine aI (kT (ay:=fun ls1 i1 L' l4 c2=>(e.j'.drop i1=ls1)/\rb (rd tl) i lU out ls1 L'=some R) (Of:=fun _ i1 L' l4 c2=>[bx aJ 101 b lU,bx ap 47 b1 tB,bx fQ 47 b2 (gQ L' (aY l4 c2 L'.j'.length)),gh aJ 101 l4 c2 L'.j']) (Gf:=fun _ i1 L' l4 c2=>[(2,tV (aE b 0)),(4,tV (aE b1 0)),(5,tV (aE b2 0)),(6,bS (i:Int)),(8,iQ out.j'),(13,cy (ap) l),(14,iQ l),(15,bS (i:Int)),(24,cy (aJ) e.j'),(25,iQ e.j'),(26,bS (i1:Int))]) (fun i1 L' l4 c2 h=>?_) (fun e1 tl1 ih1 i1 L' l4 c2 h=>?_) e.j' 0 out l1 c ⟨Y,h⟩) (bA Y)
  ·obtain⟨Z',h⟩:=h;refine dq Z' Y<|aw<|aD Y<|dA Y<|cn h Y (fun h=>?_) (fun h=>?_)
   ·refine aG<|cL 0 fh Y<|T (lK nH m8 (.tail _ (.tail _ (.head _))) (.tail _ (.tail _ (.tail _ (.head _)))) Y (J Y))<|T (oH j6 (kX (J Y)))<|T (fq (J Y) hI)<|cL 1 rK Y<|aW cz wm Y<|bD<|cV V hN Y ?_;exact bg (aI (ih (i+1) (av.mk lU.Tag (i64.wrap ((L'.j'.length:Int)-1)) lU.R lU.X' lU.Value) L' l4 c2 ⟨cJ V,h⟩) (bA Y))
   ·refine aG<|cL 0 fh Y<|T (lK nH m8 (.tail _ (.tail _ (.head _))) (.tail _ (.tail _ (.tail _ (.head _)))) Y (J Y))<|T (oH j6 (kX (J Y)))<|T (fq (J Y) hI)<|cL 2 rJ Y<|aW cz wl Y<|bD<|cV V hN Y ?_;exact bg (aI (ih (i+1) (av.mk lU.Tag lU.L (i64.wrap ((L'.j'.length:Int)-1)) lU.X' lU.Value) L' l4 c2 ⟨cJ V,h⟩) (bA Y))
  ·obtain⟨Z',h⟩:=h;refine dp Z' Y<|aC<|an<|aQ<|d8 j6 dF Y (de Z')<|ax dF mg Y fun b4=>aW dF af Y<|bI ?_;refine j8 (ay:=fun n=>Ac out (rb (rd tl) i lU out tl1) L' n=some R) (Of:=fun n=>[bx aJ 101 b lU,bx ap 47 b1 tB,bx aJ 101 b4 n,bx fQ 47 b2 (gQ L' (aY l4 c2 L'.j'.length)),gh aJ 101 l4 c2 L'.j']) (Gf:=fun n=>[(2,tV (aE b 0)),(4,tV (aE b1 0)),(5,tV (aE b2 0)),(6,bS (i:Int)),(8,iQ out.j'),(10,tV (aE b4 0)),(13,cy (ap) l),(14,iQ l),(15,bS (i:Int)),(24,cy (aJ) e.j'),(25,iQ e.j'),(26,bS (i1:Int))]) (fun n h=>?_) (fun K=>?_)
   ·skip;refine j8 (ay:=fun n1=>Ab (rb (rd tl) i lU out tl1) L' n1=some R) (Of:=fun n1=>[bx aJ 101 b lU,bx ap 47 b1 tB,bx aJ 101 b4 n1,bx fQ 47 b2 (gQ L' (aY l4 c2 L'.j'.length)),gh aJ 101 l4 c2 L'.j']) (Gf:=fun n1=>[(2,tV (aE b 0)),(4,tV (aE b1 0)),(5,tV (aE b2 0)),(6,bS (i:Int)),(8,iQ out.j'),(10,tV (aE b4 0)),(13,cy (ap) l),(14,iQ l),(15,bS (i:Int)),(24,cy (aJ) e.j'),(25,iQ e.j'),(26,bS (i1:Int))]) (fun n1 h=>?_) (fun K1=>?_)
    ·skip;refine aG<|cL 0 fh Y<|T (lK nH m8 (.tail _ (.tail _ (.tail _ (.head _)))) (.tail _ (.tail _ (.tail _ (.tail _ (.head _))))) Y (J Y))<|T (bP dF Y Y bT (.tail _ (.tail _ (.head _))) (J Y))<|T (aK (r:=aJ) (ys:=[n1]) (xs:=[.tmp 48]) j6 dF Y Y Y Y Y ⟨(J Y),Z⟩)<|qd<|cj h fun l5 q_l5 h=>nD dF Y Y Y Y j6 Y Y (J Y) (J Y) q_l5 fun l6 c3=>cL 0 fh Y<|qd<|gL nH Y (xG _ _ _) Y (J Y) (Hf (Cx (J Y)))<|bD<|cV Z' hN1 Y<|cU<|aO<|bv<|bv<|cv<|cv ?_;exact bg (aI (ih1 (i1+1) ({L' with j':=l5}:au) l6 c3 ⟨cJ Z',h⟩) (bA Y))
    ·skip;refine aQ<|cL 2 rJ Y<|T (bP cz Y Y qC (.tail _ (.tail _ (.head _))) (J Y))<|T (iZ (J Y) hI)<|cn h Y (fun h=>?_) (fun h=>?_)
     ·refine aG<|cL 2 rJ Y<|T (bP cz Y Y qC (.tail _ (.tail _ (.head _))) (J Y))<|bj Y<|T (mC (J Y) (J Y))<|cL 2 rJ Y<|eF<|aW cz wl Y<|bD<|cU<|cU<|aH<|cU<|cU ?_;exact cQ (K1 (av.mk n.Tag n.L (i64.wrap (n.R+(out.j'.length:Int))) n.X' n.Value) h) (bA Y)
     ·refine bO ?_;exact cQ (K1 n h) (bA Y)
   ·skip;refine aQ<|cL 1 rK Y<|T (bP cz Y Y qD (.head _) (J Y))<|T (iZ (J Y) hI)<|cn h Y (fun h=>?_) (fun h=>?_)
    ·refine aG<|cL 1 rK Y<|T (bP cz Y Y qD (.head _) (J Y))<|bj Y<|T (mC (J Y) (J Y))<|cL 1 rK Y<|aW cz wm Y<|bD<|cU<|cU<|aH<|cU<|cU ?_;exact cQ (K (av.mk e1.Tag (i64.wrap (e1.L+(out.j'.length:Int))) e1.R e1.X' e1.Value) h) (bA Y)
    ·refine bO<|cU<|cU<|aH<|cU<|cU ?_;exact cQ (K e1 h) (bA Y)
def aht n{R}(h:Ol n=some R):bZ aP 48 [bS n] (Q ah R):=by
 exact cx func48 Y<|aQ<|ax aT bK Y fun b=>bI<|aD Y<|T (bW (y:=(⟨2,n,0,[]⟩:ac)) aT wu bK (⟨_,_,_,_,_,Y,sd,Y,hI,⟨_,_,_,_,_,Y,ul,Y,(J Y),Y⟩⟩))<|aW aT af Y<|aA 2 Y<|cX<|so h▸iM Y aT Y Y Y
def U9 col n{R}(h:zF col n=some R):bZ aP 14 [bS col,bS n] (Q ap R):=by
 refine cx func14 Y<|aQ<|ax bR dQ Y fun b=>bI<|aQ<|T (bW (y:=af4) dF IV mg (⟨_,_,_,_,_,Y,si,Y,hI,Y⟩))<|bj Y<|T (bW (y:=(⟨2,0,0,col,⟨0,0,0,[]⟩⟩:av)) dF IV mg (⟨_,_,_,_,_,Y,si,Y,hI,⟨_,_,_,_,_,Y,Ff,Y,(J Y),Y⟩⟩))<|cC h Vn (Ft _ _) ⟨(J Y),JB,Z⟩ fun r h=>bj Y<|cC h amb (aht _) (bN Y) fun r1 h=>T (bW (y:=(⟨1,0,0,0,r1⟩:av)) dF IV mg (⟨_,_,_,_,_,Y,si,Y,hI,⟨_,_,_,_,_,Y,Lb,Y,(J Y),Y⟩⟩))<|cC h Vn (Ft _ _) ⟨(J Y),JB,Z⟩ fun r2 h=>T (aK (r:=ap) (ys:=[r,r2]) (xs:=[.tmp 8,.tmp 12]) qp bR Y Y Y Y Y ⟨(J Y),(J Y),Z⟩)<|cC h Vn (Ft _ _) (bN Y) fun r3 h=>aW bR af Y<|aA 4 Y ?_;exact cX<|so h▸iM Y bR Y Y Y
def aaT{R}(h:CT=some R):bZ aP 12 [] (Q aX R):=by
 refine cx func12 Y<|aQ<|ax dC fU Y fun b=>bI<|aQ<|T (bW (y:=(⟨22,0,0,0,⟨0,0,0,[]⟩⟩:av)) dF IV mg (⟨_,_,_,_,_,Y,si,Y,hI,Y⟩))<|cC h aii (U9 _ _) (bN Y) fun r h=>cC h aii (U9 _ _) (bN Y) fun r1 h=>T (aK (r:=ap) (ys:=[r,r1]) (xs:=[.tmp 3,.tmp 4]) qp bR Y Y Y Y Y ⟨(J Y),(J Y),Z⟩)<|cC h Vn (Ft _ _) (bN Y) fun r2 h=>ax bR dQ Y fun b1=>aW bR af Y<|aA 1 Y<|bI<|aC<|cj h fun r3 v_ h=>cj h fun r4 x_ h=>?_;refine cj h fun r5 O_ h=>?_;refine Cb 16 (ts:=[oA ([2]),Q aq XO,oA ([2]),Q aq XP,Q aJ af4,Q aJ (⟨2,0,0,0,⟨0,0,0,[]⟩⟩:av),Q ap r3,Q aJ (⟨2,0,0,1,⟨0,0,0,[]⟩⟩:av),Q ap r4,cy (ap) ([r3,r4]),Q ap r5,Q aq (⟨2,0,1,0,[],false,r5,[],[],[],[],0⟩:ai),Q ap r2,Q aq (⟨3,2,(-1),0,[],false,r2,[],[],[],[],0⟩:ai),cy (aq) ([XO,XP,(⟨2,0,1,0,[],false,r5,[],[],[],[],0⟩:ai),(⟨3,2,(-1),0,[],false,r2,[],[],[],[],0⟩:ai)]),Q aX (⟨[XO,XP,(⟨2,0,1,0,[],false,r5,[],[],[],[],0⟩:ai),(⟨3,2,(-1),0,[],false,r2,[],[],[],[],0⟩:ai)]⟩:aZ)]) mixed Y Y Y
  ⟨Q6 Y (aK (r:=cM) (ys:=[2]) (xs:=[.const (.int .i64 (2))]) iG cz Y Y Y Y Y ⟨hI,Z⟩),
  ⟨dy 7 0 Y Y (bW (y:=XO) fL SS lk (⟨_,_,_,_,_,Y,sf,Y,hI,⟨_,_,_,_,_,Y,uo,Y,hI,⟨_,_,_,_,_,Y,um,Y,hI,⟨_,_,_,_,_,Y,yM,Y,(J Y),Y⟩⟩⟩⟩)),
  ⟨Q6 Y (aK (r:=cM) (ys:=[2]) (xs:=[.const (.int .i64 (2))]) iG cz Y Y Y Y Y ⟨hI,Z⟩),
  ⟨dy 9 2 Y Y (bW (y:=XP) fL SS lk (⟨_,_,_,_,_,Y,sf,Y,hI,⟨_,_,_,_,_,Y,uo,Y,hI,⟨_,_,_,_,_,Y,um,Y,hI,⟨_,_,_,_,_,Y,La,Y,hI,⟨_,_,_,_,_,Y,yM,Y,(J Y),Y⟩⟩⟩⟩⟩)),
  ⟨Q6 Y (bW (y:=af4) dF IV mg (⟨_,_,_,_,_,Y,si,Y,hI,Y⟩)),
  ⟨Q6 Y (bW (y:=(⟨2,0,0,0,⟨0,0,0,[]⟩⟩:av)) dF IV mg (⟨_,_,_,_,_,Y,si,Y,hI,Y⟩)),
  ⟨dy 12 5 Y Y (bG Vn (Ft _ _ v_) ⟨(J Y),JB,Z⟩),
  ⟨Q6 Y (bW (y:=(⟨2,0,0,1,⟨0,0,0,[]⟩⟩:av)) dF IV mg (⟨_,_,_,_,_,Y,si,Y,hI,⟨_,_,_,_,_,Y,Ff,Y,hI,Y⟩⟩)),
  ⟨dy 14 7 Y Y (bG Vn (Ft _ _ x_) ⟨(J Y),JB,Z⟩),
  ⟨dX 13 6 15 8 Y Y Y (aK (r:=ap) (ys:=[r3,r4]) (xs:=[.tmp 13,.tmp 15]) qp bR Y Y Y Y Y ⟨(J Y),(J Y),Z⟩),
  ⟨dX 11 4 16 9 Y Y Y (bG Vn (Ft _ _ O_) ⟨(J Y),(J Y),Z⟩),
  ⟨dy 17 10 Y Y (bW (y:=(⟨2,0,1,0,[],false,r5,[],[],[],[],0⟩:ai)) fL SS lk (⟨_,_,_,_,_,Y,sf,Y,hI,⟨_,_,_,_,_,Y,uo,Y,hI,⟨_,_,_,_,_,Y,um,Y,hI,⟨_,_,_,_,_,Y,se,Y,(J Y),Y⟩⟩⟩⟩)),
  ⟨oq 1 Y Y (np bR Y Y),
  ⟨dy 19 12 Y Y (bW (y:=(⟨3,2,(-1),0,[],false,r2,[],[],[],[],0⟩:ai)) fL SS lk (⟨_,_,_,_,_,Y,sf,Y,hI,⟨_,_,_,_,_,Y,uo,Y,hI,⟨_,_,_,_,_,Y,um,Y,hI,⟨_,_,_,_,_,Y,se,Y,(J Y),Y⟩⟩⟩⟩)),
  ⟨⟨[⟨8,_,some 1⟩,⟨10,_,some 3⟩,⟨18,_,some 11⟩,⟨20,_,some 13⟩],_,Y,⟨Y,Y,Y,Y,Z⟩,Y,Y,ae Y (aK (r:=aq) (ys:=[XO,XP,(⟨2,0,1,0,[],false,r5,[],[],[],[],0⟩:ai),(⟨3,2,(-1),0,[],false,r2,[],[],[],[],0⟩:ai)]) (xs:=[.tmp 8,.tmp 10,.tmp 18,.tmp 20]) oo fL Y Y Y Y Y ⟨(J Y),(J Y),(J Y),(J Y),Z⟩)⟩,
  ⟨dy 21 14 Y Y (bW (y:=(⟨[XO,XP,(⟨2,0,1,0,[],false,r5,[],[],[],[],0⟩:ai),(⟨3,2,(-1),0,[],false,r2,[],[],[],[],0⟩:ai)]⟩:aZ)) dC Qk fU (⟨_,_,_,_,_,Y,Ue,Y,(J Y),Y⟩)),
  Z⟩⟩⟩⟩⟩⟩⟩⟩⟩⟩⟩⟩⟩⟩⟩⟩ ?_
 exact aW dC af Y<|aA 0 Y<|cX<|so h▸iM Y dC Y Y Y
def ahI a1 b{R}(h:Lq a1 b=some R):bZ aP 13 [Q ap a1,Q ap b] (iF R):=by
 refine cx func13 Y<|aQ<|cg Y<|cg Y<|ck<|bI<|bc<|bX fh dV nH Y<|ca j6 Y<|bX fh dV nH Y<|ca j6 Y<|T (iO (J Y) (J Y))<|cn h Y (fun h=>?_) (fun h=>?_)
 ·exact aQ<|ck<|cX<|am<|so h▸aM Y Y
 ·refine iq<|bc<|bX fh dV nH Y<|ca j6 Y<|T (bQ hI)<|bI<|an<|bm (k:=14) Y fun hN=>bM ?_;refine aI (gG (ay:=fun ls i=>(a1.j'.drop i=ls)/\Aa b ls i=some R) (Of:=fun _ i=>[]) (Gf:=fun _ i=>[(2,bH ap a1),(3,bH ap b),(15,iQ a1.j'),(16,bS (i:Int))]) (fun i h=>?_) (fun e tl ih i h=>?_) a1.j' 0 ⟨Y,h⟩) (bA Y)
  ·obtain⟨V,h⟩:=h;exact dq V Y<|aw<|aQ<|ck<|cX<|so h▸aM Y Y
  ·obtain⟨V,h⟩:=h;refine dp V Y<|aC<|an<|aD Y<|aS Y<|aC<|cj h fun e1 Y' h=>?_;refine nQ (ts:=[_,_,_,_,_,_,_,_,_,_,_]) mixed Y Y
    ⟨oq 2 Y Y (mW fh dV Y Y),
    ⟨fm 0 nH Y Y,
    ⟨eX Y Y,
    ⟨dX 20 1 21 2 Y Y Y (Ky j6 dF Y Y Y (de V)),
    ⟨fm 3 dF Y Y,
    ⟨oq 3 Y Y (mW fh dV Y Y),
    ⟨fm 5 nH Y Y,
    ⟨eX Y Y,
    ⟨dX 25 6 26 7 Y Y Y (Ky j6 dF Y Y Y Y'),
    ⟨fm 8 dF Y Y,
    ⟨dX 23 4 28 9 Y Y Y (Dx afu (J Y) (J Y)),
    Z⟩⟩⟩⟩⟩⟩⟩⟩⟩⟩⟩ ?_
   refine aw<|px h Y (fun h=>?_) (fun h=>?_)
   ·exact aQ<|ck<|cX<|cR<|am<|cR<|so h▸aM Y Y
   ·refine bO<|cV V hN Y ?_;exact bg (aI (ih (i+1) ⟨cJ V,h⟩) (bA Y))
def aja{R}(h:CS=some R):bZ aP 4 [] (iF R):=by
 refine cx func4 Y<|aQ<|ck<|bI<|aQ<|cC h ak0 aaT trivial fun r h=>cC h cb8 (afp _) (bN Y) fun r1 h=>bj Y<|bL Y Y<|bL Y Y<|ax dC fU Y fun b=>aW dC af Y<|aA 1 Y<|aS Y<|aQ<|cj h fun r2 d_ h=>?_;refine T (bG ak0 (aaT d_) trivial)<|cC h cb9 (afo _) (bN Y) fun r3 h=>bj Y<|bL Y Y<|bL Y Y<|bL Y Y<|ax dC fU Y fun b1=>aW dC af Y<|aA 3 Y<|iH Y<|aS Y<|aC<|cj h fun t r_ h=>?_;obtain⟨e,g_,s_⟩:=og r_;have q_eg:=fun H=>(g_ H).1;refine cj h fun t1 V_ h=>?_;obtain⟨e1,o_,G_⟩:=og V_;have I_:=fun H=>(o_ H).1;refine cj h fun t2 W_ h=>?_;obtain⟨e2,L_,X_⟩:=og W_;have E_:=fun H=>(L_ H).1;refine cj h fun t3 q_t3 h=>?_;obtain⟨e3,M_,h0t3⟩:=og q_t3;have P_:=fun H=>(M_ H).1;obtain⟨r4,M_⟩:=og2 (fun H=>(M_ H).2);have q_r4g:=fun H=>(M_ H).1;obtain⟨r5,M_⟩:=og2 (fun H=>(M_ H).2);have K_:=fun H=>(M_ H).1;refine nQ (ts:=[_,_,_,_,_,_,_,_,_,_,_,_,_,_,_,_,_,_,_,_,_,_,_,_,_,_,_,_,_,_,_,_,_,_,_,_,_,_,_,_,_,_,_,_,_,_,_,_,_]) mixed Y Y
  ⟨eX Y Y,
  ⟨dy 17 0 Y Y (zei Y),
  ⟨dy 18 1 Y Y (l0 Y),
  ⟨ui 5 19 2 Y Y Y (cP Y Y Y Y (fun hg=>l0 Y)),
  ⟨jN 20 3 19 2 Y Y Y (cP Y Y Y Y (fun hg=>mb (db Y hg) hI)),
  ⟨dX 19 2 21 4 Y Y Y (zpa Y Y),
  ⟨dy 22 5 Y Y (l0 Y),
  ⟨ui 4 23 6 Y Y Y (cP Y Y Y Y (fun hg=>l0 Y)),
  ⟨dX 23 6 24 7 Y Y Y (zpa Y Y),
  ⟨dy 25 8 Y Y (l0 Y),
  ⟨ui 1 26 9 Y Y Y (cP Y Y Y Y (fun hg=>mW ju fx Y Y)),
  ⟨jN 27 10 26 9 Y Y Y (cP Y Y Y Y (fun hg=>gO r0 Y Y (db Y hg))),
  ⟨jN 28 11 26 9 Y Y Y (cP Y Y Y Y (fun hg=>oH oo (db Y hg))),
  ⟨jN 29 12 26 9 Y Y Y (cP Y Y Y Y (fun hg=>mb (db Y hg) hI)),
  ⟨dX 26 9 30 13 Y Y Y (zpa Y Y),
  ⟨dy 31 14 Y Y (l0 Y),
  ⟨ui 1 32 15 Y Y Y (cP Y Y Y Y (fun hg=>mW ju fx Y Y)),
  ⟨jN 33 16 32 15 Y Y Y (cP Y Y Y Y (fun hg=>gO r0 Y Y (db Y hg))),
  ⟨jN 34 17 32 15 Y Y Y (cP Y Y Y Y (fun hg=>bn oo fL Y (db Y hg) hI (q_eg hg))),
  ⟨jN 35 18 32 15 Y Y Y (cP Y Y Y Y (fun hg=>nT qF Y iD Y (db Y hg))),
  ⟨jN 36 19 32 15 Y Y Y (cP Y Y Y Y (fun hg=>gO cz Y Y (db Y hg))),
  ⟨jN 37 20 32 15 Y Y Y (cP Y Y Y Y (fun hg=>mb (db Y hg) hI)),
  ⟨dX 32 15 38 21 Y Y Y (ee (J Y) (fun H=>(db Y H)) (fun H=>(g_ H).2) s_),
  ⟨dy 39 22 Y Y (l0 Y),
  ⟨ui 1 40 23 Y Y Y (cP Y Y Y Y (fun hg=>mW ju fx Y Y)),
  ⟨jN 41 24 40 23 Y Y Y (cP Y Y Y Y (fun hg=>gO r0 Y Y (db Y hg))),
  ⟨jN 42 25 40 23 Y Y Y (cP Y Y Y Y (fun hg=>bn oo fL Y (db Y hg) hI (I_ hg))),
  ⟨jN 43 26 40 23 Y Y Y (cP Y Y Y Y (fun hg=>nT qF Y iD Y (db Y hg))),
  ⟨jN 44 27 40 23 Y Y Y (cP Y Y Y Y (fun hg=>gO cz Y Y (db Y hg))),
  ⟨jN 45 28 40 23 Y Y Y (cP Y Y Y Y (fun hg=>mb (db Y hg) hI)),
  ⟨dX 40 23 46 29 Y Y Y (ee (J Y) (fun H=>(db Y H)) (fun H=>(o_ H).2) G_),
  ⟨dy 47 30 Y Y (l0 Y),
  ⟨ui 1 48 31 Y Y Y (cP Y Y Y Y (fun hg=>mW ju fx Y Y)),
  ⟨jN 49 32 48 31 Y Y Y (cP Y Y Y Y (fun hg=>gO r0 Y Y (db Y hg))),
  ⟨jN 50 33 48 31 Y Y Y (cP Y Y Y Y (fun hg=>bn oo fL Y (db Y hg) hI (E_ hg))),
  ⟨jN 51 34 48 31 Y Y Y (cP Y Y Y Y (fun hg=>nT qF Y iD Y (db Y hg))),
  ⟨jN 52 35 48 31 Y Y Y (cP Y Y Y Y (fun hg=>gO cz Y Y (db Y hg))),
  ⟨jN 53 36 48 31 Y Y Y (cP Y Y Y Y (fun hg=>mb (db Y hg) hI)),
  ⟨dX 48 31 54 37 Y Y Y (ee (J Y) (fun H=>(db Y H)) (fun H=>(L_ H).2) X_),
  ⟨dy 55 38 Y Y (l0 Y),
  ⟨ui 1 56 39 Y Y Y (cP Y Y Y Y (fun hg=>mW ju fx Y Y)),
  ⟨jN 57 40 56 39 Y Y Y (cP Y Y Y Y (fun hg=>gO r0 Y Y (db Y hg))),
  ⟨jN 58 41 56 39 Y Y Y (cP Y Y Y Y (fun hg=>bn oo fL Y (db Y hg) hI (P_ hg))),
  ⟨jN 59 42 56 39 Y Y Y (cP Y Y Y Y (fun hg=>nT oV Y i7 Y (db Y hg))),
  ⟨jN 60 43 56 39 Y Y Y (cP Y Y Y Y (fun hg=>gO bR Y Y (db Y hg))),
  ⟨zes 56 39 Y Y (cP Y Y Y Y (fun hg=>bG aii (U9 _ _ (q_r4g hg)) ⟨hI,hI,Z⟩)),
  ⟨zu 61 44 62 45 56 39 Y Y Y Y (cP Y Y Y Y (fun hg=>bG amx (ahI _ _ (K_ hg)) ⟨(db Y hg),(db Y hg),Z⟩)),
  ⟨dX 56 39 63 46 Y Y Y (ee (J Y) (fun H=>(db Y H)) (fun H=>(M_ H).2) h0t3),
  ⟨dy 64 47 Y Y (Aj Y),
  Z⟩⟩⟩⟩⟩⟩⟩⟩⟩⟩⟩⟩⟩⟩⟩⟩⟩⟩⟩⟩⟩⟩⟩⟩⟩⟩⟩⟩⟩⟩⟩⟩⟩⟩⟩⟩⟩⟩⟩⟩⟩⟩⟩⟩⟩⟩⟩⟩⟩ ?_
 exact aw<|jm<|so h▸aM Y Y
