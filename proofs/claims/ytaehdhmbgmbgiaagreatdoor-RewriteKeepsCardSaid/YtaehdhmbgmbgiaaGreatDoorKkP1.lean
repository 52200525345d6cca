import Derived.Test.YtaehdhmbgmbgiaaGreatDoorKkT
import Derived.Test.YtaehdhmbgmbgiaaGreatDoorKkP0
set_option linter.all false
namespace Go.Proofs.YtaehdhmbgmbgiaaGreatDoor
open Go IntKind Tryz EffOK
set_option maxRecDepth 100000
def DH e{R}(h:qL e=some R):bZ aP 100 [Q ap e] (bS R):=by
 refine cx func100 Y<|aQ<|cg Y<|bU<|bI<|bc<|bq bR Y<|cC h afR (WP _) (bN Y) fun r h=>bj Y<|bL Y Y<|bL Y Y<|iH Y<|aS Y<|aD Y<|T (jj (J Y)) ?_;refine cn h Y (fun h=>?_) (fun h=>?_)
 ·exact aQ<|dd<|am<|so h▸aM Y Y
 ·exact iq<|aQ<|dd<|so h▸aM Y Y
def ahH(l:Option Nat)(c:Nat) s{R}(h:nR s=some R):dZ aP 149 [rr l c s] [eV cM 3 l c s] (fun i:OI=>rr (i.h 0).1 (i.h 0).2 R) (fun i=>[eV cM 3 (i.h 0).1 (i.h 0).2 R]):=by
 refine dZ.of func149 Y Y Y fun w0 S0=>aQ<|bJ false cM 3<|T (bu tK)<|bI<|bc<|bj Y<|T (fJ iG (.tail _ (.head _)) (J Y))<|T (jk (J Y) hI)<|cn h Y (fun h=>?_) (fun h=>?_)
 ·exact aD Y<|bf Y<|am<|aO<|so h▸nO Y (oi l c) Y Y (fun _ _ h=>h)
 ·refine iq<|bc<|bU<|bI<|an<|gH (.tail _ (.head _)) fun hN=>bM<|pI ?_;refine aI (gG (ay:=fun ls i=>(s.drop i=ls)/\ir s ls i=some R) (Of:=fun _ i=>[eV cM 3 l c s]) (Gf:=fun _ i=>[(0,rr l c s),(3,bS (i:Int))]) (fun i h=>?_) (fun e tl ih i h=>?_) (s.drop (1)) 1 ⟨Y,h⟩) (bA Y)
  ·obtain⟨V,h⟩:=h;exact ig<|bc<|bj Y<|bj Y<|T (fJ iG (.head _) (J Y))<|wS Y<|bI<|vV (J Y) (WX V)<|ji<|bh<|bh<|d5<|aw<|aD Y<|bf Y<|so h▸nO Y (oi l c) Y Y (fun _ _ h=>h)
  ·obtain⟨V,h⟩:=h;refine ig<|bc<|bj Y<|bj Y<|T (fJ iG (.head _) (J Y))<|wS Y<|bI<|vU (J Y) (Td V)<|iq<|aC<|an<|aC<|cj h fun e1 Y' h=>?_;refine nQ (ts:=[_,_,_,_,_,_,_,_,_,_]) mixed Y Y
    ⟨eX Y Y,
    ⟨eX Y Y,
    ⟨dX 16 0 17 1 Y Y Y (ce iG cz (.head _) (J Y) (J Y) (de V)),
    ⟨dy 18 2 Y Y (dj (r:=cM) (i:=(i:Int)) (foff:=0) cz Y Y bT Y (.head _) (de V) (J Y)),
    ⟨eX Y Y,
    ⟨eX Y Y,
    ⟨dy 21 5 Y Y (fq (J Y) hI),
    ⟨dX 20 4 22 6 Y Y Y (ce iG cz (.head _) (J Y) (J Y) Y'),
    ⟨dy 23 7 Y Y (dj (r:=cM) (i:=(i64.wrap ((i:Int)-1))) (foff:=0) cz Y Y bT Y (.head _) Y' (J Y)),
    ⟨dX 19 3 24 8 Y Y Y (mb (J Y) (J Y)),
    Z⟩⟩⟩⟩⟩⟩⟩⟩⟩⟩ ?_
   refine aw<|px h Y (fun h=>?_) (fun h=>?_)
   ·refine aD Y<|bj Y<|cj h fun y j_ h=>T (qn iG cz Y (.head _) (J Y) (J Y) j_)<|pe (.head _) j_ fun hv=>aS Y<|bc<|bU<|bI<|an<|bM ?_;refine aI (Q4 (ay:=fun k1 i1 s1 k=>(y.length-i1=k1)/\fZ i y k1 i1 s1 k=some R) (Of:=fun _ i1 s1 k=>[eV cM 3 l c s1]) (Gf:=fun _ i1 s1 k=>[(0,rr l c s1),(3,bS k),(4,tV (sY 1 l c (i:Int).toNat y.length)),(5,bS (i1:Int))]) (fun i1 s1 k h=>?_) (fun k2 ih1 i1 s1 k h=>?_) (y.length-1) 1 s (i:Int) ⟨Y,h⟩) (bA Y)
    ·obtain⟨Z',h⟩:=h;refine ig<|bc<|bj Y<|bj Y<|T (JR iG hv.1 (J Y))<|wS Y<|bI<|vV (J Y) (Z1 Z')<|ji<|bh<|bh<|d5<|aw<|aD Y<|bj Y<|cj h fun y1 m_ h=>T (qn iG cz Y (.head _) (J Y) (J Y) m_)<|pe (.head _) m_ fun hv1=>cj h fun cl U_ h=>?_;exact Pc cz Y Y iG (fun _=>Y) Y m_ (J Y) (so U_)<|fR (DO m_ (so U_)) 0 Y<|fR (DO m_ (so U_)) 54 Y<|bI<|aD Y<|bj Y<|cj h fun y2 q_y2 h=>T (m4 iG cz Y (.head _) (J Y) (J Y) q_y2)<|zh q_y2<|bf Y<|cR<|am<|cR<|so h▸nO Y (oi l c) Y Y (fun _ _ h=>h)
    ·obtain⟨Z',h⟩:=h;refine ig<|bc<|bj Y<|bj Y<|T (JR iG hv.1 (J Y))<|wS Y<|bI<|vU (J Y) (Z0 Z')<|iq<|aC<|an<|aC<|cj h fun e3 e_ h=>cj h fun e4 A_ h=>?_;refine nQ (ts:=[_,_,_,_,_,_,_,_,_,_]) mixed Y Y
      ⟨eX Y Y,
      ⟨eX Y Y,
      ⟨dX 35 0 36 1 Y Y Y (re iG cz Y (.head _) (yk j_) (J Y) (J Y) e_),
      ⟨dy 37 2 Y Y (dj (r:=cM) (i:=((i:Int)+(i1:Int))) (foff:=0) cz Y Y bT Y (.head _) (wr e_).2.2 (J Y)),
      ⟨eX Y Y,
      ⟨eX Y Y,
      ⟨dy 40 5 Y Y (fq (J Y) hI),
      ⟨dX 39 4 41 6 Y Y Y (re iG cz Y (.head _) (yk j_) (J Y) (J Y) A_),
      ⟨dy 42 7 Y Y (dj (r:=cM) (i:=((i:Int)+(i64.wrap ((i1:Int)-1)))) (foff:=0) cz Y Y bT Y (.head _) (wr A_).2.2 (J Y)),
      ⟨dX 38 3 43 8 Y Y Y (iO (J Y) (J Y)),
      Z⟩⟩⟩⟩⟩⟩⟩⟩⟩⟩ ?_
     refine aw<|px h Y (fun h=>?_) (fun h=>?_)
     ·refine aD Y<|bj Y<|bj Y<|bj Y<|cj h fun e5 p_ h=>T (re iG cz Y (.head _) (yk j_) (J Y) (J Y) p_)<|T (dj (r:=cM) (i:=((i:Int)+(i1:Int))) (foff:=0) cz Y Y bT Y (.head _) (wr p_).2.2 (J Y))<|cj h fun e6 u_ h=>T (ce iG cz (.head _) (J Y) (J Y) u_)<|cj h fun st c_ h=>nm cz Y af Y u_ (so c_) (J Y) (J Y)<|fR (eT (so c_)) 0 Y<|fR (eT (so c_)) 45 Y<|bI<|aG<|bj Y<|T (mC (J Y) hI)<|iH Y<|bD<|bt<|aw ?_;refine aG<|bj Y<|T (xZ (Sn Z' (Z8 hv.2)) (J Y) hI)<|iH Y<|bD ?_;exact bg (aI (ih1 (i1+1) st (i64.wrap (k+1)) ⟨Sl Z',h⟩) (bA Y))
     ·refine bO<|bt<|aw<|aG<|bj Y<|T (xZ (Sn Z' (Z8 hv.2)) (J Y) hI)<|iH Y<|bD ?_;exact bg (aI (ih1 (i1+1) s1 k ⟨Sl Z',h⟩) (bA Y))
   ·refine bO<|NZ V hN Y ?_;exact bg (aI (ih (i+1) ⟨cJ V,h⟩) (bA Y))
def GO e{R}(h:rm e=some R):fE aP 101 [Q ap e] false cM 3 R:=by
 refine fE.of func101 Y Y Y fun w0 S0=>aQ<|cg Y<|bJ false cM 3<|T (bu tK)<|bI<|bc<|bq bR Y<|cC h O5 (DH _) (bN Y) fun r h=>gw Y<|cn h Y (fun h=>?_) (fun h=>?_)
 ·exact aQ<|bJ false cM 3<|T (bu tK)<|cX<|am<|so h▸fP Y Y
 ·refine iq<|aQ<|bJ false cM 3<|T (bu tK)<|bI<|bc<|bX fh dV nH Y<|ca j6 Y<|T (bQ hI)<|bI<|an<|bm (k:=10) Y fun hN=>bM<|dm<|pI ?_;refine aI (kT (ay:=fun ls i out l c=>(e.j'.drop i=ls)/\mV ls out=some R) (Of:=fun _ i out l c=>[eV cM 3 l c out]) (Gf:=fun _ i out l c=>[(3,rr l c out),(10,cy (aJ) e.j'),(11,iQ e.j'),(12,bS (i:Int))]) (fun i out l c h=>?_) (fun e1 tl ih i out l c h=>?_) e.j' 0 Hj none 0 ⟨Y,h⟩) (bA Y)
  ·obtain⟨V,h⟩:=h;refine dq V Y<|aw<|aD Y<|cj h fun zr J_ h=>?_;refine abG (n:=out.length) (ys:=zr) NK ?_ akD ?_ ?_ ?_ ?_ ?_
   ·rfl
   ·exact J_
   ·exact(J Y)
   ·rfl
   ·rfl
   intro hl;refine t6 hl 3 Y<|t6 hl 25 Y<|bI<|aD Y<|cj h fun r1 a_ h=>AW [eV cM 3 l c zr] _ Y akC (ahH l c _ a_) ⟨(J Y),Z⟩ Y fun i1=>?_;refine(show RG _ _ _ _ [_] ((28,rr (i1.h 0).1 (i1.h 0).2 r1)::_)from ?_);exact bf Y<|so h▸fP Y Y
  ·obtain⟨V,h⟩:=h;refine dp V Y<|aC<|an<|aQ<|d8 j6 dF Y (de V)<|ax dF mg Y fun b=>aW dF af Y<|aA 5 Y<|bI<|aQ<|vh lE fy Y ?_;refine bq cz Y<|dA Y<|cn h Y (fun h=>?_) (fun h=>?_)
   ·refine aG<|bj Y<|bX rG lD cz Y<|T (aK (r:=cM) (ys:=[e1.X']) (xs:=[.tmp 21]) iG cz Y Y Y Y Y ⟨(J Y),Z⟩)<|cj h fun L' l_ h=>cD cz Y Y Y Y iG Y Y (J Y) (J Y) l_ fun l2 c2=>iH Y<|bD<|cV V hN Y ?_;exact bg (aI (ih (i+1) L' l2 c2 ⟨cJ V,h⟩) (bA Y))
   ·refine bO<|cV V hN Y ?_;exact bg (aI (ih (i+1) out l c ⟨cJ V,h⟩) (bA Y))
def Qv s{R}(h:dG s=some R):fE aP 65 [oA s] false cM 3 R:=by
 refine fE.of func65 Y Y Y fun w0 S0=>aQ<|bJ false cM 3<|T (bu tK)<|bI<|bc<|bj Y<|zg iG (J Y) Y fun isnil hisnil=>bI<|tu (J Y) (fun hc=>?_) (fun hc=>?_)
 ·have V:=hisnil hc;have h:some Hj=some R:=by simpa [dG,app,V] using h
  exact aQ<|bJ false cM 3<|T (bu tK)<|cX<|am<|so h▸fP Y Y
 ·exact iq<|aQ<|fF (r:=cM) (ys:=Hj) (xs:=[]) iG cz Y Y Y Y Y trivial Y fun l c=>bj Y<|cj h fun x y_ h=>cD cz Y Y Y Y iG Y Y (J Y) (J Y) y_ fun l1 c1=>bf Y<|so h▸fP Y Y
def aaI s{R}(h:dG s=some R):bZ aP 65 [oA s] (oA R):=(Qv _ h).spec
def ai9{l:Option Nat}{c:Nat}{xs s:List Int}{lo:Int}{R}(hs:df xs lo (xs.length:Int)=some s)(h:dG s=some R):dZ aP 65 [tV (sY 1 l c lo.toNat s.length)] [eV cM 3 l c xs] (fun i:OI=>rr (i.h 0).1 (i.h 0).2 R) (fun i=>[eV cM 3 (i.h 0).1 (i.h 0).2 R,eV cM 3 l c xs]):=by
 refine dZ.of func65 Y Y Y fun w0 S0=>aQ<|T (bu tK)<|bI<|bc<|bj Y<|If (r:=cM) iG (.head _) hs (J Y) Y fun isnil hisnil=>bI<|tu (J Y) (fun hc=>?_) (fun hc=>?_)
 ·have V:=hisnil hc;have h:some Hj=some R:=by simpa [dG,app,V] using h
  exact aQ<|bJ false cM 3<|T (bu tK)<|cX<|am<|so h▸nO Y (oi none 0) Y Y (fun _ _ h=>h)
 ·exact iq<|aQ<|fF (r:=cM) (ys:=Hj) (xs:=[]) iG cz Y Y Y Y Y trivial Y fun l1 c1=>bj Y<|cj h fun x y_ h=>FE cz Y Y Y Y iG Y Y (J Y) (.tail _ (.head _)) hs (J Y) y_ fun l2 c2=>bf Y<|so h▸nO Y (oi l2 c2) Y Y (fun _ _ h=>h)
def ahB(b:Nat)(l:Option Nat)(c:Nat) stack k{R}(h:ud stack k=some R):dZ aP 268 [bS k,tV (aE b 0)] [bx rV 44 b (aY l c stack.length),eV cM 3 l c stack] (fun i:OI=>oA R.1) (fun i=>[bx rV 44 b (aY (i.h 0).1 (i.h 0).2 R.2.length),eV cM 3 (i.h 0).1 (i.h 0).2 R.2]):=by
 refine dZ.of func268 Y Y Y fun w0 S0=>aQ<|kq cM<|bI<|aQ<|T (ip fS (.head _) (J Y))<|T (ip fS (.head _) (J Y))<|T (fJ iG (.tail _ (.head _)) (J Y))<|bj Y<|T (fq (J Y) (J Y))<|cj h fun y j_ h=>T (qn iG cz Y (.tail _ (.head _)) (J Y) (J Y) j_)<|pe (.tail _ (.head _)) j_ fun hv=>bo<|cj h fun r h_ h=>AW [eV cM 3 l c stack] _ Y abl (ai9 j_ h_) ⟨(J Y),Z⟩ Y fun i=>?_;refine(show RG _ _ _ _ [_,_,_] _ from ?_);refine aS Y<|aQ<|T (ip fS (.tail _ (.tail _ (.head _))) (J Y))<|T (ip fS (.tail _ (.tail _ (.head _))) (J Y))<|T (fJ iG (.tail _ (.head _)) (J Y))<|bj Y<|T (fq (J Y) (J Y))<|cj h fun y1 m_ h=>T (m4 iG cz Y (.tail _ (.head _)) (J Y) (J Y) m_)<|bo<|zh m_<|eF<|dc fS Y af Y (J Y) (Hf (J Y))<|bI<|aD Y<|aS Y ?_;exact jm<|aH<|mK<|dn 3 Y<|dn 11 Y<|dn 4 Y<|dn 18 Y<|mL 3 Y<|aO<|bv<|bv<|so h▸nO Y (oi l c) Y Y (fun _ _ h=>h)
def adh e do1{R}(h:tW e do1=some R):bZ aP 242 [Q ap e,(eD aP ab1 abX (fun(x:av×(List Int))=>do1 x.1 x.2))] (tT [bS R.1,bS R.2]):=by
 refine cx func242 Y<|aQ<|cg Y<|bU<|bU<|bI<|Ha<|aQ<|bJ false cM 3<|ax (x:=aY none 0 0) fS (fun _=>Hz) Y fun b=>bI<|aQ<|bU<|bI<|aQ<|T (LB (cts:=[tV (aE b 0)]) (caps:=[.tmp 6]) ⟨(J Y),Z⟩)<|iH Y ?_;refine bI<|aQ<|bU<|bI<|aC<|Hb<|aw<|bc<|bX fh dV nH Y<|ca j6 Y<|T (bQ hI)<|bI ?_;refine Il (ay:=fun bad stack l c=>p5 bad stack=some R) (Of:=fun bad stack l c=>[bx rV 44 b (aY l c stack.length),eV cM 3 l c stack]) (Gf:=fun bad stack l c=>[(6,tV (aE b 0)),(7,bS 0),(9,bS bad)]) (fun bad stack l c h=>?_) (fun K=>?_)
 ·skip;refine aw<|bc<|bj Y<|gw Y<|cn h Y (fun h=>?_) (fun h=>?_)
  ·exact aD Y<|bj Y<|iH Y<|bf Y<|am<|u5<|aO<|aO<|so h▸dM Y Y Y
  ·exact iq<|aQ<|T (ip fS (.head _) (J Y))<|cj h fun e1 Y' h=>T (ce iG cz (.tail _ (.head _)) (J Y) hI Y')<|T (dj (r:=cM) (i:=0) (foff:=0) cz Y Y bT Y (.tail _ (.head _)) Y' (J Y))<|iH Y<|dd<|u5<|aO<|aO<|so h▸dM Y Y Y
 ·skip;refine bm (k:=16) Y fun hN=>bM ?_;refine aI (qe (ay:=fun ls i bad1 stack1 l1 c1=>(e.j'.drop i=ls)/\kP do1 ls bad1 stack1=some R) (Of:=fun _ i bad1 stack1 l1 c1=>[bx rV 44 b (aY l1 c1 stack1.length),eV cM 3 l1 c1 stack1]) (Gf:=fun _ i bad1 stack1 l1 c1=>[(1,(eD aP ab1 abX (fun(x:av×(List Int))=>do1 x.1 x.2))),(6,tV (aE b 0)),(7,bS 0),(8,tC 268 [tV (aE b 0)]),(9,bS bad1),(16,cy (aJ) e.j'),(17,iQ e.j'),(18,bS (i:Int))]) (fun i bad1 stack1 l1 c1 h=>?_) (fun e2 tl ih i bad1 stack1 l1 c1 h=>?_) e.j' 0 0 Hj none 0 ⟨Y,h⟩) (bA Y)
  ·obtain⟨V,h⟩:=h;refine dq V Y ?_;exact cQ (K bad1 stack1 l1 c1 h) (bA Y)
  ·obtain⟨V,h⟩:=h;refine dp V Y<|aC<|an<|aQ<|d8 j6 dF Y (de V)<|ax dF mg Y fun b1=>aW dF af Y<|aA 11 Y<|bI<|aC<|cj h fun r h_ h=>cj h fun r1 a_ h=>?_;refine cj h fun r2 d_ h=>?_;refine jQ 12 [tc ((eD aP ab1 abX (fun(x:av×(List Int))=>do1 x.1 x.2))),tc (Q aJ e2),tc (tC 268 [tV (aE b 0)]),tc (bH cM e2.Tag),tc (bS e2.Tag),tc (bS r),tc (oA r1.1),tc (tT [bS r2.1,bS r2.2]),tc (tT [bS r2.1,bS r2.2]),tc (bS r2.1),tc (bS r2.2),tc (bS r2.1)] [false,false,false,false,false,false,true,false,false,false,false,false] [([],fun _=>[bx rV 44 b (aY l1 c1 stack1.length),eV cM 3 l1 c1 stack1]),([6],fun sg=>[bx rV 44 b (aY ((sg 6).h 0).1 ((sg 6).h 0).2 r1.2.length),eV cM 3 ((sg 6).h 0).1 ((sg 6).h 0).2 r1.2])] (fun _=>Y) mixed Y Y Y Y
    ⟨⟨[⟨1,fun _=>(eD aP af8 af5 (fun(x:av×(List Int))=>do1 x.1 x.2)),none⟩],_,[[],[6]],Y,⟨(fun _=>Y),Z⟩,Y,Y,Y,Y,Y,⟨fun sg=>ae Y (l0 Y),fun sg=>ae Y (l0 Y),Z⟩⟩,
    ⟨⟨[⟨11,fun _=>bH aJ e2,none⟩],_,[[],[6]],Y,⟨(fun _=>Y),Z⟩,Y,Y,Y,Y,Y,⟨fun sg=>ae Y (np dF Y Y),fun sg=>ae Y (np dF Y Y),Z⟩⟩,
    ⟨⟨[⟨8,fun _=>tC 268 [tV (aE b 0)],none⟩],_,[[]],Y,⟨(fun _=>Y),Z⟩,Y,Y,Y,Y,Y,⟨fun sg=>ae Y (l0 Y),Z⟩⟩,
    ⟨⟨[⟨11,fun _=>bH aJ e2,none⟩],_,[[]],Y,⟨(fun _=>Y),Z⟩,Y,Y,Y,Y,Y,⟨fun sg=>ae Y (mW lE fy Y Y),Z⟩⟩,
    ⟨⟨[⟨26,fun _=>bH cM e2.Tag,some 3⟩],_,[[]],Y,⟨(fun _=>Y),Z⟩,Y,Y,Y,Y,Y,⟨fun sg=>ae Y (np cz Y Y),Z⟩⟩,
    ⟨⟨[⟨27,fun _=>Q cM e2.Tag,some 4⟩],_,[[]],Y,⟨(fun _=>Y),Z⟩,Y,Y,Y,Y,Y,⟨fun sg=>ae Y (bG O4 (DG _ h_) ⟨(J Y),Z⟩),Z⟩⟩,
    ⟨⟨[⟨25,fun _=>tC 268 [tV (aE b 0)],some 2⟩,⟨28,fun _=>Q cM r,some 5⟩],_,[([],[6])],Y,⟨(fun _=>Y),(fun _=>Y),Z⟩,Y,Y,Y,Y,Y,⟨fun sg=>cw Y (fr1 (fr1 (AO (xs:=[.tmp 28]) (ts:=[Q cM r]) (cts:=[tV (aE b 0)]) [bx rV 44 b (aY l1 c1 stack1.length),eV cM 3 l1 c1 stack1] _ Y ajD (ahB b l1 c1 _ _ a_) (J Y) ⟨(J Y),Z⟩ (fun _=>Y)))),Z⟩⟩,
    ⟨⟨[⟨23,fun _=>(eD aP af8 af5 (fun(x:av×(List Int))=>do1 x.1 x.2)),some 0⟩,⟨24,fun _=>Q aJ e2,some 1⟩,⟨29,fun _=>Q Bc r1.1,some 6⟩],_,[[6]],Y,⟨(fun _=>Y),(fun _=>Y),(fun _=>Y),Z⟩,Y,Y,Y,Y,Y,⟨fun sg=>ae Y (hZ (args:=af8) (res:=af5) (f:=(fun(x:av×(List Int))=>do1 x.1 x.2)) (x:=((e2,r1.1):av×(List Int))) (J Y) d_ ⟨(J Y),(J Y),Z⟩),Z⟩⟩,
    ⟨⟨[⟨30,fun _=>tT [Q cM r2.1,Q cM r2.2],some 7⟩],_,[[6]],Y,⟨(fun _=>Y),Z⟩,Y,Y,Y,Y,Y,⟨fun sg=>ae Y (l0 Y),Z⟩⟩,
    ⟨⟨[⟨22,fun _=>tT [Q cM r2.1,Q cM r2.2],some 8⟩],_,[[6]],Y,⟨(fun _=>Y),Z⟩,Y,Y,Y,Y,Y,⟨fun sg=>ae Y (yi Y Y),Z⟩⟩,
    ⟨⟨[⟨22,fun _=>tT [Q cM r2.1,Q cM r2.2],some 8⟩],_,[[6]],Y,⟨(fun _=>Y),Z⟩,Y,Y,Y,Y,Y,⟨fun sg=>ae Y (yi Y Y),Z⟩⟩,
    ⟨⟨[⟨31,fun _=>Q cM r2.1,some 9⟩],_,[[6]],Y,⟨(fun _=>Y),Z⟩,Y,Y,Y,Y,Y,⟨fun sg=>ae Y (Aj Y),Z⟩⟩,
    Z⟩⟩⟩⟩⟩⟩⟩⟩⟩⟩⟩⟩ (fun sg=>?_)
   refine(show RG _ _ _ _ [_,_] _ from ?_);refine aS Y<|bc<|bj Y<|gw Y<|cn h Y (fun h=>?_) (fun h=>?_)
   ·refine aD Y<|aS Y<|ji<|bh<|cT Y<|bh<|bh<|d5 ?_;exact cQ (K r2.2 r1.2 ((sg 6).h 0).1 ((sg 6).h 0).2 h) (bA Y)
   ·refine iq<|aG<|T (ip fS (.head _) (J Y))<|bj Y<|T (aK (r:=cM) (ys:=[r2.1]) (xs:=[.tmp 37]) iG cz Y Y Y Y Y ⟨(J Y),Z⟩)<|bo<|cj h fun l2 w_ h=>cD cz Y Y Y Y iG Y Y (J Y) (J Y) w_ fun l3 c2=>bo<|dc fS Y af Y (J Y) (Hf (J Y))<|bD<|cV V hN Y ?_;exact bg (aI (ih (i+1) bad1 l2 l3 c2 ⟨cJ V,h⟩) (bA Y))
def WD tag{R}(h:xD tag=some R):bZ aP 228 [bS tag] (iF R):=by
 exact cx func228 Y<|aQ<|ck<|bI<|aD Y<|dA Y<|bj Y<|co Y (fa Y)<|co Y (fun hg=>iZ (db Y hg) hI)<|co Y (F8 Y)<|kS Y Y Y Y (fun hg=>l0 Y)<|kS Y Y Y Y (fun hg=>sv (db Y hg) hI)<|co Y (fun hg=>wo (db Y hg) (fun H=>(db Y (G3 hg H))))<|py Y<|bf Y<|so h▸aM Y Y
def adg v' n l{R}(h:na v' n l=some R):bZ aP 243 [Q aJ n,oA l,bH u8z v'] (tT [bS R.1,bS R.2]):=by
 refine cx func243 Y<|aQ<|cg Y<|bU<|bU<|bI<|aQ<|bU<|bI<|bc<|bj Y<|ca iG Y<|T (bQ hI)<|bI<|an<|bm (k:=12) Y fun hN=>bM ?_;refine aI (jP (ay:=fun ls i own=>(l.drop i=ls)/\p7 v' n ls own=some R) (Of:=fun _ i own=>[]) (Gf:=fun _ i own=>[(2,bH u8z v'),(3,bH aJ n),(7,bS own),(12,oA l),(13,iQ l),(14,bS (i:Int))]) (fun i own h=>?_) (fun e tl ih i own h=>?_) l 0 0 ⟨Y,h⟩) (bA Y)
 ·obtain⟨V,h⟩:=h;refine dq V Y<|aw<|aD Y<|aS Y<|aQ<|bU<|bI ?_;refine aC<|an<|aQ<|bX lE fy cz Y<|dA Y<|aS Y<|px h Y (fun h=>?_) (fun h=>?_)
  ·exact aQ<|vh BE pn Y<|bX kZ eg cz Y<|iH Y<|dd<|cR<|so h▸dM Y Y Y
  ·refine aQ<|bX lE fy cz Y<|dA Y<|aS Y<|px h Y (fun h=>?_) (fun h=>?_)
   ·exact aQ<|bq fS Y<|bX rG lD cz Y<|cj h fun e1 Y' h=>d8 iG cz Y Y'<|iH Y<|dd<|cR<|so h▸dM Y Y Y
   ·refine aQ<|bX lE fy cz Y<|cC h afE (WD _) (bN Y) fun r h=>aS Y<|px h Y (fun h=>?_) (fun h=>?_)
    ·refine aG<|bU<|bU<|bD<|bt<|aw<|bc<|bj Y<|dA Y<|bj Y<|co Y (fa Y)<|co Y (Et Y)<|co Y (F8 Y)<|kS Y Y Y Y (fun hg=>l0 Y)<|kS Y Y Y Y (fun hg=>l0 Y)<|kS Y Y Y Y (fun hg=>iO (db Y hg) (db Y hg))<|co Y (fun hg=>wo (db Y hg) (fun H=>(db Y (G3 hg H))))<|py Y<|cn h Y (fun h=>?_) (fun h=>?_)
     ·exact aQ<|bU<|dd<|am<|so h▸dM Y Y Y
     ·exact iq<|aD Y<|iH Y<|dd<|so h▸dM Y Y Y
    ·refine aQ<|bX lE fy cz Y<|dA Y<|bj Y<|co Y (gU lE fy Y Y)<|co Y (gK cz Y Y)<|co Y (qT Y)<|py Y<|bj Y<|co Y (gU lE fy Y Y)<|co Y (gK cz Y Y)<|co Y (qT Y)<|py Y<|aS Y<|px h Y (fun h=>?_) (fun h=>?_)
     ·refine aG<|bU<|bD<|bt<|aw<|bc<|bj Y<|dA Y<|bj Y<|co Y (fa Y)<|co Y (Et Y)<|co Y (F8 Y)<|kS Y Y Y Y (fun hg=>l0 Y)<|kS Y Y Y Y (fun hg=>l0 Y)<|kS Y Y Y Y (fun hg=>iO (db Y hg) (db Y hg))<|co Y (fun hg=>wo (db Y hg) (fun H=>(db Y (G3 hg H))))<|py Y<|cn h Y (fun h=>?_) (fun h=>?_)
      ·exact aQ<|bU<|dd<|am<|so h▸dM Y Y Y
      ·exact iq<|aD Y<|iH Y<|dd<|so h▸dM Y Y Y
     ·refine bO<|bt<|aw<|bc<|bj Y<|dA Y<|bj Y<|co Y (fa Y)<|co Y (Et Y)<|co Y (F8 Y)<|kS Y Y Y Y (fun hg=>l0 Y)<|kS Y Y Y Y (fun hg=>l0 Y)<|kS Y Y Y Y (fun hg=>iO (db Y hg) (db Y hg))<|co Y (fun hg=>wo (db Y hg) (fun H=>(db Y (G3 hg H))))<|py Y<|cn h Y (fun h=>?_) (fun h=>?_)
      ·exact aQ<|bU<|dd<|am<|so h▸dM Y Y Y
      ·exact iq<|aD Y<|iH Y<|dd<|so h▸dM Y Y Y
 ·obtain⟨V,h⟩:=h;refine dp V Y<|aC<|an<|aQ<|d8 iG cz Y (de V)<|aS Y<|an<|aD Y<|dA Y ?_;refine bj Y<|co Y (fa Y)<|co Y (fa Y)<|co Y (fun hg=>mb (db Y hg) (db Y hg))<|py Y<|aS Y<|px h Y (fun h=>?_) (fun h=>?_)
  ·refine bO<|bt<|cV V hN Y ?_;exact bg (aI (ih (i+1) own ⟨cJ V,h⟩) (bA Y))
  ·refine aD Y<|dA Y<|aS Y<|px h Y (fun h=>?_) (fun h=>?_)
   ·refine aG<|bj Y<|iH Y<|bD<|bt<|cV V hN Y ?_;exact bg (aI (ih (i+1) e ⟨cJ V,h⟩) (bA Y))
   ·refine aG<|bU<|bD<|bt<|cV V hN Y ?_;exact bg (aI (ih (i+1) Jr ⟨cJ V,h⟩) (bA Y))
def Qz e v'{R}(h:yz e v'=some R):bZ aP 186 [Q ap e,oA v'] (tT [bS R.1,bS R.2]):=by
 refine cx func186 Y<|aQ<|cg Y<|cg Y<|bU<|bU<|bI<|bc<|bq bR Y<|cC h O5 (DH _) (bN Y) fun r h=>aS Y<|aD Y<|gw Y<|bI ?_;refine px h Y (fun h=>?_) (fun h=>?_)
 ·exact aD Y<|bU<|bf Y<|am<|so h▸dM Y Y Y
 ·refine iq<|bc<|bq fS Y<|ca iG Y<|T (bQ hI)<|bI<|an<|bm (k:=16) Y fun hN=>bM ?_;refine aI (gG (ay:=fun ls i=>(v'.drop i=ls)/\vK e v' ls=some R) (Of:=fun _ i=>[]) (Gf:=fun _ i=>[(2,bH ap e),(3,bH u8z v'),(16,oA v'),(17,iQ v'),(18,bS (i:Int))]) (fun i h=>?_) (fun e1 tl ih i h=>?_) v' 0 ⟨Y,h⟩) (bA Y)
  ·obtain⟨V,h⟩:=h;refine dq V Y<|aw<|bc<|bq bR Y<|pz h Xi (GO _) (bN Y) fun r1 h l c=>T (fJ iG (.head _) (J Y))<|T (bQ hI)<|bI<|an ?_;refine gH (.head _) fun hN1=>bM ?_;refine aI (gG (ay:=fun ls1 i1=>(r1.drop i1=ls1)/\qK e v' ls1=some R) (Of:=fun _ i1=>[eV cM 3 l c r1]) (Gf:=fun _ i1=>[(2,bH ap e),(3,bH u8z v'),(30,rr l c r1),(31,iQ r1),(32,bS (i1:Int))]) (fun i1 h=>?_) (fun e2 tl1 ih1 i1 h=>?_) r1 0 ⟨Y,h⟩) (bA Y)
   ·obtain⟨Z',h⟩:=h;refine dq Z' Y<|aw<|aQ<|bq bR Y<|T ((show cu _ _ _ _ ((eD aP ab1 abX (fun(x:av×(List Int))=>(na v') x.1 x.2)))from kN (cts:=[bH u8z v']) (caps:=[.tmp 3]) ajL ⟨(J Y),Z⟩ (fun x y h=>adg _ _ _ h)))<|cC h ajM (adh _ _) (bN Y) fun r2 h=>bL Y Y<|bL Y Y<|iH Y<|iH Y<|bD ?_;exact aw<|jm<|aO<|so h▸dM Y Y Y
   ·obtain⟨Z',h⟩:=h;refine dp Z' Y<|aC<|an<|aQ<|T (ce iG cz (.head _) (J Y) (J Y) (de Z'))<|T (dj (r:=cM) (i:=(i1:Int)) (foff:=0) cz Y Y bT Y (.head _) (de Z') (J Y))<|aS Y<|aD Y<|bq fS Y<|ca iG Y ?_;refine T (iZ (J Y) (J Y))<|cn h Y (fun h=>?_) (fun h=>?_)
    ·exact aQ<|bU<|dd<|cR<|am<|cR<|aO<|so h▸dM Y Y Y
    ·refine bO<|cV Z' hN1 Y ?_;exact bg (aI (ih1 (i1+1) ⟨cJ Z',h⟩) (bA Y))
  ·obtain⟨V,h⟩:=h;refine dp V Y<|aC<|an<|aQ<|d8 iG cz Y (de V)<|aS Y<|aD Y<|T (jk (J Y) hI)<|bj Y ?_;refine co Y (fa Y)<|co Y (fun hg=>oI (db Y hg) hI)<|py Y<|cn h Y (fun h=>?_) (fun h=>?_)
   ·exact aQ<|bU<|dd<|cR<|am<|cR<|so h▸dM Y Y Y
   ·refine bO<|cV V hN Y ?_;exact bg (aI (ih (i+1) ⟨cJ V,h⟩) (bA Y))
