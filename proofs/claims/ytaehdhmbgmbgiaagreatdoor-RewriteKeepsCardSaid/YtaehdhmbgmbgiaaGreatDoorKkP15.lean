import Derived.Test.YtaehdhmbgmbgiaaGreatDoorKkT
import Derived.Test.YtaehdhmbgmbgiaaGreatDoorKkP14
set_option linter.all false
namespace Go.Proofs.YtaehdhmbgmbgiaaGreatDoor
open Go Tryz
set_option maxRecDepth 100000
def aeh c{R}(h:zz c=some R):bZ aP 136 [bS c] (iF R):=by
 exact cx func136 Y<|aQ<|ck<|bI<|aD Y<|T (jk (J Y) hI)<|bf Y<|so h▸aM Y Y
def adJ r c{R}(h:Do r c=some R):bZ aP 191 [bS c,bH d6 r] (iF R):=by
 exact cx func191 Y<|aQ<|ck<|bI<|aD Y<|T (jk (J Y) hI)<|bj Y<|co Y (fa Y)<|co Y (fun hg=>np ja Y Y)<|co Y (vi oT Y)<|co Y (fun hg=>iZ (db Y hg) (db Y hg))<|py Y<|bf Y<|so h▸aM Y Y
def aeg r columns{R}(h:JN r columns=some R):bZ aP 138 [cy (ah) r,oA columns] (iF R):=by
 refine cx func138 Y<|aQ<|cg Y<|ck<|bI<|aQ<|T ((show cu _ _ _ _ ((eD aP Rr nG (fun(x:Int)=>(Do r) x)))from kN (cts:=[bH d6 r]) (caps:=[.tmp 2]) akb ⟨(J Y),Z⟩ (fun x y h=>adJ _ _ h)))<|aS Y<|aD Y<|ca iG Y<|T (sv (J Y) hI)<|bj Y<|cj h fun t r_ h=>bk Y (fa Y)<|bk Y (fa Y) ?_;obtain⟨r1,g_,s_⟩:=og r_;have k_:=fun H=>(g_ H).1;exact bk Y (fun hg=>bG Xf (Kc _ _ (k_ hg)) ⟨(db Y hg),(db Y hg),Z⟩)<|bk Y (yH Y)<|T (ee (J Y) (fun H=>(db Y H)) (fun H=>(g_ H).2) s_)<|bf Y<|so h▸aM Y Y
def ahd l columns{R}(h:Dp l columns=some R):bZ aP 82 [cy (d6) l,oA columns] (bS R):=by
 refine cx func82 Y<|aQ<|bU<|bI<|bc<|bj Y<|T (aK (r:=fG) (ys:=[l]) (xs:=[.tmp 9]) rN ki Y Y Y Y Y ⟨(J Y),Z⟩)<|cC h aib (U2 _) (bN Y) fun r h=>aS Y<|aD Y<|gw Y<|cn h Y (fun h=>?_) (fun h=>?_)
 ·exact aD Y<|bf Y<|am<|so h▸aM Y Y
 ·refine iq<|aQ<|T (bu (show be _ _ _ ((eD aP Rr nG (fun(x:Int)=>zz x)))from(A3 akK fun x y h=>aeh _ h)))<|bI<|bc<|bj Y<|ca iG Y<|T (oI (J Y) hI)<|bj Y<|cj h fun t r_ h=>co Y (fa Y)<|co Y (fa Y) ?_;obtain⟨r1,g_,s_⟩:=og r_;have k_:=fun H=>(g_ H).1;refine co Y (fun hg=>bG Xf (Kc _ _ (k_ hg)) ⟨(db Y hg),(db Y hg),Z⟩)<|T (nt (J Y) (fun H=>(db Y (Ea H))) (fun H=>(g_ H).2) s_)<|cn h Y (fun h=>?_) (fun h=>?_)
  ·exact aQ<|dd<|am<|so h▸aM Y Y
  ·refine iq<|bc<|bj Y<|ca nP Y<|T (bQ hI)<|bI<|an<|bm (k:=23) Y fun hN=>bM ?_;refine aI (gG (ay:=fun ls i=>(l.drop i=ls)/\vu columns ls=some R) (Of:=fun _ i=>[]) (Gf:=fun _ i=>[(1,oA columns),(23,cy (d6) l),(24,iQ l),(25,bS (i:Int))]) (fun i h=>?_) (fun e tl ih i h=>?_) l 0 ⟨Y,h⟩) (bA Y)
   ·obtain⟨V,h⟩:=h;exact dq V Y<|aw<|aQ<|dd<|so h▸aM Y Y
   ·obtain⟨V,h⟩:=h;refine dp V Y<|aC<|an<|aQ<|d8 nP ja Y (de V)<|aS Y<|aD Y<|bj Y<|cj h fun r2 d_ h=>?_;refine T (bG akJ (aeg _ _ d_) ⟨(J Y),(J Y),Z⟩)<|T (jj (J Y))<|cn h Y (fun h=>?_) (fun h=>?_)
    ·exact aQ<|dd<|cR<|am<|cR<|so h▸aM Y Y
    ·refine bO<|cV V hN Y ?_;exact bg (aI (ih (i+1) ⟨cJ V,h⟩) (bA Y))
def Qw s{R}(h:dH s=some R):fE aP 56 [cy (ah) s] false ah 72 R:=by
 refine fE.of func56 Y Y Y fun w0 S0=>aQ<|bJ false ah 72<|T (bu tK)<|bI<|bc<|bj Y<|zg oT (J Y) Y fun isnil hisnil=>bI<|tu (J Y) (fun hc=>?_) (fun hc=>?_)
 ·have V:=hisnil hc;have h:some Nj=some R:=by simpa [dH,app,V] using h
  exact aQ<|bJ false ah 72<|T (bu tK)<|cX<|am<|so h▸fP Y Y
 ·exact iq<|aQ<|fF (r:=ah) (ys:=Nj) (xs:=[]) oT aT Y Y Y Y Y trivial Y fun l c=>bj Y<|cj h fun x y_ h=>cD aT Y Y Y Y oT Y Y (J Y) (J Y) y_ fun l1 c1=>bf Y<|so h▸fP Y Y
def Wr l{R}(h:yO l=some R):fE aP 83 [cy (d6) l] false d6 68 R:=by
 refine fE.of func83 Y Y Y fun w0 S0=>aQ<|bJ false d6 68<|T (bu tK)<|bI<|aQ<|bJ false d6 68<|T (bu tK)<|bI<|bc<|bj Y<|ca nP Y<|T (bQ hI)<|bI<|an<|bm (k:=6) Y fun hN=>bM ?_;refine dm<|pI ?_;refine aI (kT (ay:=fun ls i out l1 c=>(l.drop i=ls)/\q9 ls out=some R) (Of:=fun _ i out l1 c=>[eV d6 68 l1 c out]) (Gf:=fun _ i out l1 c=>[(3,rr l1 c out),(6,cy (d6) l),(7,iQ l),(8,bS (i:Int))]) (fun i out l1 c h=>?_) (fun e tl ih i out l1 c h=>?_) l 0 Kx none 0 ⟨Y,h⟩) (bA Y)
 ·obtain⟨V,h⟩:=h;exact dq V Y<|aw<|aD Y<|bf Y<|so h▸fP Y Y
 ·obtain⟨V,h⟩:=h;refine dp V Y<|aC<|an<|aQ<|d8 nP ja Y (de V)<|aS Y<|aG<|bj Y<|bj Y<|pz h aid (Qw _) (bN Y) fun r h l2 c1=>?_;refine gk<|gW 14 Y<|T (aK (r:=d6) (ys:=[r]) (xs:=[.tmp 14]) nP ja Y Y Y Y Y ⟨(kX (J Y)),Z⟩)<|bo<|cj h fun L' l_ h=>cD ja Y Y Y Y nP Y Y (J Y) (J Y) l_ fun l3 c2=>iH Y<|bD<|cV V hN Y<|bv<|aO ?_;exact bg (aI (ih (i+1) L' l3 c2 ⟨cJ V,h⟩) (bA Y))
def aem s1 s2 cmp{R}(h:dB s1 s2 cmp=some R):bZ aP 120 [cy (ah) s1,cy (ah) s2,(eD aP u7 D3 (fun(x:ac×ac)=>cmp x.1 x.2))] (bS R):=by
 refine cx func120 Y<|aQ<|bU<|bI<|bc<|bj Y<|ca oT Y<|T (bQ hI)<|bI<|an<|bm (k:=11) Y fun hN=>bM ?_;refine aI (gG (ay:=fun ls i=>(s1.drop i=ls)/\cr s1 s2 cmp ls i=some R) (Of:=fun _ i=>[]) (Gf:=fun _ i=>[(0,cy (ah) s1),(1,cy (ah) s2),(2,(eD aP u7 D3 (fun(x:ac×ac)=>cmp x.1 x.2))),(11,cy (ah) s1),(12,iQ s1),(13,bS (i:Int))]) (fun i h=>?_) (fun e tl ih i h=>?_) s1 0 ⟨Y,h⟩) (bA Y)
 ·obtain⟨V,h⟩:=h;refine dq V Y<|aw<|bc<|bj Y<|ca oT Y<|bj Y<|ca oT Y<|wS Y<|cn h Y (fun h=>?_) (fun h=>?_)
  ·exact aQ<|dd<|am<|so h▸aM Y Y
  ·exact iq<|aQ<|dd<|so h▸aM Y Y
 ·obtain⟨V,h⟩:=h;refine dp V Y<|aC<|an<|aD Y<|d8 oT aT Y (de V)<|ax aT bK Y fun b=>iH Y<|aW aT af Y<|aA 8 Y<|bI<|aC ?_;refine aD Y<|bj Y<|ca oT Y<|T (iZ (J Y) (J Y))<|cn h Y (fun h=>?_) (fun h=>?_)
  ·exact aQ<|dd<|am<|cR<|am<|cR<|so h▸aM Y Y
  ·refine iq<|aD Y<|bj Y<|cj h fun e1 Y' h=>d8 oT aT Y Y'<|ax aT bK Y fun b1=>aW aT af Y<|aA 9 Y<|bI<|aD Y<|bq aT Y<|bq aT Y<|cj h fun r h_ h=>T (hZ (args:=u7) (res:=abU) (f:=(fun(x:ac×ac)=>cmp x.1 x.2)) (x:=((e,e1):ac×ac)) (J Y) h_ ⟨(J Y),(J Y),Z⟩)<|aS Y ?_;refine aD Y<|gw Y<|cn h Y (fun h=>?_) (fun h=>?_)
   ·exact aD Y<|bf Y<|cR<|am<|cR<|so h▸aM Y Y
   ·refine bO<|cV V hN Y ?_;exact bg (aI (ih (i+1) ⟨cJ V,h⟩) (bA Y))
def Wy p{R}(h:tp p=some R):bZ aP 238 [Q Pr p] (iF R):=by
 exact cx func238 Y<|aQ<|ck<|bI<|aD Y<|bj Y<|T (iO (J Y) (J Y))<|bf Y<|so h▸aM Y Y
def adW p y{R}(h:qN p y=some R):bZ aP 178 [Q Pr p,Q Pr y] (bS R):=by
 refine cx func178 Y<|aQ<|bU<|bI<|aD Y<|cC h afz (Wy _) (bN Y) fun r h=>aS Y<|aD Y<|cC h afz (Wy _) (bN Y) fun r1 h=>aS Y<|aC<|aC ?_;refine aG<|bj Y<|cn h Y (fun h=>?_) (fun h=>?_)
 ·refine bc<|bj Y<|cn h Y (fun h=>?_) (fun h=>?_)
  ·exact aQ<|dd<|am<|am<|so h▸aM Y Y
  ·exact iq<|aQ<|dd<|am<|so h▸aM Y Y
 ·refine iq<|bc<|bj Y<|cn h Y (fun h=>?_) (fun h=>?_)
  ·exact aQ<|dd<|am<|so h▸aM Y Y
  ·refine iq<|bc<|bj Y<|bj Y<|wS Y<|cn h Y (fun h=>?_) (fun h=>?_)
   ·exact aQ<|dd<|am<|so h▸aM Y Y
   ·refine iq<|bc<|bj Y<|bj Y<|T (oI (J Y) (J Y))<|cn h Y (fun h=>?_) (fun h=>?_)
    ·exact aQ<|dd<|am<|so h▸aM Y Y
    ·exact iq<|aQ<|dd<|so h▸aM Y Y
def Wx p{R}(h:tq p=some R):bZ aP 239 [Q rS p] (iF R):=by
 exact cx func239 Y<|aQ<|ck<|bI<|aD Y<|bj Y<|T (acs (J Y) (J Y))<|bf Y<|so h▸aM Y Y
def adV p y{R}(h:qO p y=some R):bZ aP 179 [Q rS p,Q rS y] (bS R):=by
 refine cx func179 Y<|aQ<|bU<|bI<|aD Y<|cC h afy (Wx _) (bN Y) fun r h=>aS Y<|aD Y<|cC h afy (Wx _) (bN Y) fun r1 h=>aS Y<|aC<|aC ?_;refine aG<|bj Y<|cn h Y (fun h=>?_) (fun h=>?_)
 ·refine bc<|bj Y<|cn h Y (fun h=>?_) (fun h=>?_)
  ·exact aQ<|dd<|am<|am<|so h▸aM Y Y
  ·exact iq<|aQ<|dd<|am<|so h▸aM Y Y
 ·refine iq<|bc<|bj Y<|cn h Y (fun h=>?_) (fun h=>?_)
  ·exact aQ<|dd<|am<|so h▸aM Y Y
  ·refine iq<|bc<|bj Y<|bj Y<|T (act (J Y) (J Y))<|cn h Y (fun h=>?_) (fun h=>?_)
   ·exact aQ<|dd<|am<|so h▸aM Y Y
   ·refine iq<|bc<|bj Y<|bj Y<|T (acv (J Y) (J Y))<|cn h Y (fun h=>?_) (fun h=>?_)
    ·exact aQ<|dd<|am<|so h▸aM Y Y
    ·exact iq<|aQ<|dd<|so h▸aM Y Y
def ael a1 b{R}(h:uq a1 b=some R):bZ aP 121 [Q ah a1,Q ah b] (bS R):=by
 refine cx func121 Y<|aQ<|cg Y<|cg Y<|bU<|bI<|aC<|cj h fun r h_ h=>cj h fun r1 a_ h=>cj h fun r2 d_ h=>cj h fun r3 v_ h=>cj h fun r4 x_ h=>?_;refine nQ (ts:=[_,_,_,_,_,_,_,_,_,_,_,_,_,_,_,_,_,_,_,_,_,_,_]) mixed Y Y
  ⟨oq 2 Y Y (mW kZ eg Y Y),
  ⟨fm 0 cz Y Y,
  ⟨oq 3 Y Y (mW kZ eg Y Y),
  ⟨fm 2 cz Y Y,
  ⟨dX 6 1 8 3 Y Y Y (bG afJ (WI _ _ h_) ⟨(J Y),(J Y),Z⟩),
  ⟨oq 2 Y Y (mW ru jX Y Y),
  ⟨fm 5 PC Y Y,
  ⟨oq 3 Y Y (mW ru jX Y Y),
  ⟨fm 7 PC Y Y,
  ⟨dX 11 6 13 8 Y Y Y (bG afI (WH _ _ a_) ⟨(J Y),(J Y),Z⟩),
  ⟨oq 2 Y Y (mW HT wv Y Y),
  ⟨fm 10 T7 Y Y,
  ⟨oq 3 Y Y (mW HT wv Y Y),
  ⟨fm 12 T7 Y Y,
  ⟨dX 16 11 18 13 Y Y Y (bG akm (adW _ _ d_) ⟨(J Y),(J Y),Z⟩),
  ⟨oq 2 Y Y (mW Ah pj Y Y),
  ⟨fm 15 XU Y Y,
  ⟨oq 3 Y Y (mW Ah pj Y Y),
  ⟨fm 17 XU Y Y,
  ⟨dX 21 16 23 18 Y Y Y (bG akl (adV _ _ v_) ⟨(J Y),(J Y),Z⟩),
  ⟨⟨[⟨9,_,some 4⟩,⟨14,_,some 9⟩,⟨19,_,some 14⟩,⟨24,_,some 19⟩],_,Y,⟨Y,Y,Y,Y,Z⟩,Y,Y,ae Y (aK (r:=cM) (ys:=[r,r1,r2,r3]) (xs:=[.tmp 9,.tmp 14,.tmp 19,.tmp 24]) iG cz Y Y Y Y Y ⟨(J Y),(J Y),(J Y),(J Y),Z⟩)⟩,
  ⟨dy 25 20 Y Y (bG ah6 (UY _ x_) ⟨(J Y),Z⟩),
  ⟨dy 26 21 Y Y (Aj Y),
  Z⟩⟩⟩⟩⟩⟩⟩⟩⟩⟩⟩⟩⟩⟩⟩⟩⟩⟩⟩⟩⟩⟩⟩ ?_
 exact aw<|jm<|so h▸aM Y Y
def Qu a1 b{R}(h:uH a1 b=some R):bZ aP 76 [cy (ah) a1,cy (ah) b] (bS R):=by
 exact cx func76 Y<|aQ<|bU<|bI<|aD Y<|bj Y<|cC h akZ (aem _ _ _) ⟨(J Y),(J Y),(A3 akY fun x y h=>ael _ _ h),Z⟩ fun r h=>bf Y<|so h▸aM Y Y
def acY r columns{R}(h:sj r columns=some R):fE aP 87 [cy (ah) r,oA columns] false ah 72 R:=by
 refine fE.of func87 Y Y Y fun w0 S0=>aQ<|bJ false ah 72<|T (bu tK)<|bI<|aQ<|bJ false ah 72<|T (bu tK)<|bI<|bc<|bj Y<|ca iG Y<|T (bQ hI)<|bI<|an<|bm (k:=8) Y fun hN=>bM ?_;refine dm<|pI ?_;refine aI (kT (ay:=fun ls i out l c=>(columns.drop i=ls)/\qk r ls out=some R) (Of:=fun _ i out l c=>[eV ah 72 l c out]) (Gf:=fun _ i out l c=>[(0,cy (ah) r),(5,rr l c out),(8,oA columns),(9,iQ columns),(10,bS (i:Int))]) (fun i out l c h=>?_) (fun e tl ih i out l c h=>?_) columns 0 Nj none 0 ⟨Y,h⟩) (bA Y)
 ·obtain⟨V,h⟩:=h;exact dq V Y<|aw<|aD Y<|bf Y<|so h▸fP Y Y
 ·obtain⟨V,h⟩:=h;refine dp V Y<|aC<|an<|aQ<|d8 iG cz Y (de V)<|aS Y<|aG<|bj Y<|bj Y<|bj Y<|cj h fun e1 Y' h=>?_;refine d8 oT aT Y Y'<|T (aK (r:=ah) (ys:=[e1]) (xs:=[.tmp 18]) oT aT Y Y Y Y Y ⟨(J Y),Z⟩)<|cj h fun L' l_ h=>cD aT Y Y Y Y oT Y Y (J Y) (J Y) l_ fun l1 c1=>iH Y<|bD<|cV V hN Y ?_;exact bg (aI (ih (i+1) L' l1 c1 ⟨cJ V,h⟩) (bA Y))
def Ml r columns{R}(h:sj r columns=some R):bZ aP 87 [cy (ah) r,oA columns] (cy (ah) R):=(acY _ _ h).spec
def ahc columns a1 b{R}(h:qu columns a1 b=some R):bZ aP 85 [cy (ah) a1,cy (ah) b,bH u8z columns] (bS R):=by
 refine cx func85 Y<|aQ<|bU<|bI<|aC<|cj h fun r h_ h=>cj h fun r1 a_ h=>cj h fun r2 d_ h=>cj h fun r3 v_ h=>cj h fun r4 x_ h=>?_;refine nQ (ts:=[_,_,_,_,_,_,_,_,_,_,_,_,_]) mixed Y Y
  ⟨eX Y Y,
  ⟨oq 2 Y Y (np fS Y Y),
  ⟨dX 6 0 7 1 Y Y Y (bG abj (Ml _ _ h_) ⟨(J Y),(J Y),Z⟩),
  ⟨eX Y Y,
  ⟨oq 2 Y Y (np fS Y Y),
  ⟨dX 9 3 10 4 Y Y Y (bG abj (Ml _ _ a_) ⟨(J Y),(J Y),Z⟩),
  ⟨dX 8 2 11 5 Y Y Y (bG aeJ (Qu _ _ d_) ⟨(J Y),(J Y),Z⟩),
  ⟨eX Y Y,
  ⟨eX Y Y,
  ⟨dX 13 7 14 8 Y Y Y (bG aeJ (Qu _ _ v_) ⟨(J Y),(J Y),Z⟩),
  ⟨dX 12 6 15 9 Y Y Y (aK (r:=cM) (ys:=[r2,r3]) (xs:=[.tmp 12,.tmp 15]) iG cz Y Y Y Y Y ⟨(J Y),(J Y),Z⟩),
  ⟨dy 16 10 Y Y (bG ah6 (UY _ x_) ⟨(J Y),Z⟩),
  ⟨dy 17 11 Y Y (Aj Y),
  Z⟩⟩⟩⟩⟩⟩⟩⟩⟩⟩⟩⟩⟩ ?_
 exact aw<|jm<|so h▸aM Y Y
def aef s1 s2{R}(h:mq s1 s2=some R):bZ aP 141 [cy (ah) s1,cy (ah) s2] (iF R):=by
 refine cx func141 Y<|aQ<|ck<|bI<|bc<|bj Y<|ca oT Y<|bj Y<|ca oT Y<|T (iO (J Y) (J Y))<|cn h Y (fun h=>?_) (fun h=>?_)
 ·exact aQ<|ck<|cX<|am<|so h▸aM Y Y
 ·refine iq<|bc<|bj Y<|ca oT Y<|T (bQ hI)<|bI<|an<|bm (k:=11) Y fun hN=>bM ?_;refine aI (gG (ay:=fun ls i=>(s1.drop i=ls)/\fV s2 ls i=some R) (Of:=fun _ i=>[]) (Gf:=fun _ i=>[(0,cy (ah) s1),(1,cy (ah) s2),(12,iQ s1),(13,bS (i:Int))]) (fun i h=>?_) (fun e tl ih i h=>?_) s1 0 ⟨Y,h⟩) (bA Y)
  ·obtain⟨V,h⟩:=h;exact dq V Y<|aw<|aQ<|ck<|cX<|so h▸aM Y Y
  ·obtain⟨V,h⟩:=h;refine dp V Y<|aC<|an<|aD Y<|aS Y<|aC<|cj h fun e1 Y' h=>?_;refine nQ (ts:=[_,_,_,_,_,_,_,_,_]) mixed Y Y
    ⟨eX Y Y,
    ⟨eX Y Y,
    ⟨dX 16 0 17 1 Y Y Y (Ky oT aT Y Y Y (de V)),
    ⟨fm 2 aT Y Y,
    ⟨eX Y Y,
    ⟨eX Y Y,
    ⟨dX 20 4 21 5 Y Y Y (Ky oT aT Y Y Y Y'),
    ⟨fm 6 aT Y Y,
    ⟨dX 19 3 23 7 Y Y Y (Dx Vb (J Y) (J Y)),
    Z⟩⟩⟩⟩⟩⟩⟩⟩⟩ ?_
   refine aw<|px h Y (fun h=>?_) (fun h=>?_)
   ·exact aQ<|ck<|cX<|cR<|am<|cR<|so h▸aM Y Y
   ·refine bO<|cV V hN Y ?_;exact bg (aI (ih (i+1) ⟨cJ V,h⟩) (bA Y))
def aaF a1 b{R}(h:uI a1 b=some R):bZ aP 89 [cy (ah) a1,cy (ah) b] (iF R):=by
 exact cx func89 Y<|aQ<|ck<|bI<|aD Y<|bj Y<|cC h akI (aef _ _) (bN Y) fun r h=>bf Y<|so h▸aM Y Y
def ahb columns a1 b{R}(h:jE columns a1 b=some R):bZ aP 88 [cy (ah) a1,cy (ah) b,bH u8z columns] (iF R):=by
 refine cx func88 Y<|aQ<|ck<|bI<|aC<|cj h fun r h_ h=>cj h fun r1 a_ h=>cj h fun r2 d_ h=>?_;refine nQ (ts:=[_,_,_,_,_,_,_,_]) mixed Y Y
  ⟨eX Y Y,
  ⟨oq 2 Y Y (np fS Y Y),
  ⟨dX 6 0 7 1 Y Y Y (bG abj (Ml _ _ h_) ⟨(J Y),(J Y),Z⟩),
  ⟨eX Y Y,
  ⟨oq 2 Y Y (np fS Y Y),
  ⟨dX 9 3 10 4 Y Y Y (bG abj (Ml _ _ a_) ⟨(J Y),(J Y),Z⟩),
  ⟨dX 8 2 11 5 Y Y Y (bG ajr (aaF _ _ d_) ⟨(J Y),(J Y),Z⟩),
  ⟨dy 12 6 Y Y (Aj Y),
  Z⟩⟩⟩⟩⟩⟩⟩⟩ ?_
 exact aw<|jm<|so h▸aM Y Y
def aee(l:(List (List ac)))(alike:((List ac)->(List ac)->Option Bool))(b:Nat):FI aP 142 (fun(x:(List (List ac)))=>[cy (d6) x]) (fun _=>Bj l alike) [bx fG 31 b l] [tV (aE b 0),bH (rT ((eD aP Kw nG (fun(x:(List ac)×(List ac))=>alike x.1 x.2)))) ()]:=by
 refine FI.of func142 Y Y Y fun Sg yld s R h h1 yv hy e he w0 S0 B hB=>?_
 replace h:Bj l alike yld s=some R:=h
 refine an<|bM<|dm ?_;refine aI (XG (ay:=fun n e1 s1 x=>h1 s1 e1/\nY alike yld n s1 x=some R) (Of:=fun e1 s1 x=>[bx fG 31 b x,e1]) (Gf:=fun e1 s1 x=>[(0,tV yv),(1,tV (aE b 0)),(2,bH (rT ((eD aP Kw nG (fun(x:(List ac)×(List ac))=>alike x.1 x.2)))) ())]) (fun e1 s1 x h=>nn h.2) (fun n ih e1 s1 x h=>?_) jl e s l ⟨he,h⟩) (bA Y);refine ig ?_;obtain⟨he1,h⟩:=h;refine bc<|T (bP ki Y Y bT (.head _) (J Y))<|ca nP Y<|T (oI (J Y) hI)<|cn h Y (fun h=>?_) (fun h=>?_)
 ·refine iq<|an<|aQ<|bU<|bI<|aC<|an<|bM ?_;refine aI (XI (ay:=fun n2 n1=>q8 alike yld (nY alike yld n) s1 x n2 n1=some R) (Of:=fun n1=>[bx fG 31 b x,e1]) (Gf:=fun n1=>[(0,tV yv),(1,tV (aE b 0)),(2,bH (rT ((eD aP Kw nG (fun(x:(List ac)×(List ac))=>alike x.1 x.2)))) ()),(4,bS n1)]) (fun n1 h=>nn h) (fun n2 ih1 n1 h=>?_) jl 1 h) (bA Y);refine ig<|aC<|aC<|cj h fun t r_ h=>?_;obtain⟨e2,g_,s_⟩:=og r_;have E_:=fun H=>(g_ H).1;obtain⟨e3,g_⟩:=og2 (fun H=>(g_ H).2);have P_:=fun H=>(g_ H).1;obtain⟨r,g_⟩:=og2 (fun H=>(g_ H).2);have F_:=fun H=>(g_ H).1;refine nQ (ts:=[_,_,_,_,_,_,_,_,_,_,_,_,_,_,_]) mixed Y Y
   ⟨eX Y Y,
   ⟨oq 1 Y Y (bP ki Y Y bT (.head _) (J Y)),
   ⟨dy 9 1 Y Y (XN nP Y),
   ⟨dX 8 0 10 2 Y Y Y (zlt Y Y),
   ⟨dy 11 3 Y Y (l0 Y),
   ⟨ui 2 12 4 Y Y Y (cP Y Y Y Y (fun hg=>yZ alp (J Y))),
   ⟨ui 1 12 4 Y Y Y (cP Y Y Y Y (fun hg=>bP ki Y Y bT (.head _) (J Y))),
   ⟨jN 14 6 12 4 Y Y Y (cP Y Y Y Y (fun hg=>bn nP ja Y (db Y hg) hI (E_ hg))),
   ⟨jN 15 7 12 4 Y Y Y (cP Y Y Y Y (fun hg=>gO ja Y Y (db Y hg))),
   ⟨ui 1 12 4 Y Y Y (cP Y Y Y Y (fun hg=>bP ki Y Y bT (.head _) (J Y))),
   ⟨ui 4 12 4 Y Y Y (cP Y Y Y Y (fun hg=>l0 Y)),
   ⟨zu 17 9 18 10 12 4 Y Y Y Y (cP Y Y Y Y (fun hg=>bn nP ja Y (db Y hg) (db Y hg) (P_ hg))),
   ⟨jN 19 11 12 4 Y Y Y (cP Y Y Y Y (fun hg=>gO ja Y Y (db Y hg))),
   ⟨⟨[⟨13,_,some 5⟩,⟨16,_,some 8⟩,⟨20,_,some 12⟩,⟨12,_,some 4⟩],_,Y,⟨Y,Y,Y,Y,Z⟩,Y,Y,cP Y Y Y Y (fun hg=>hZ (args:=ab3) (res:=F4) (f:=(fun(x:(List ac)×(List ac))=>alike x.1 x.2)) (x:=((e2,e3):(List ac)×(List ac))) (db Y hg) (F_ hg) ⟨(db Y hg),(db Y hg),Z⟩)⟩,
   ⟨dX 12 4 21 13 Y Y Y (ee (J Y) (fun H=>(db Y H)) (fun H=>(g_ H).2) s_),
   Z⟩⟩⟩⟩⟩⟩⟩⟩⟩⟩⟩⟩⟩⟩⟩ ?_
  refine aw<|px h Y (fun h=>?_) (fun h=>?_)
  ·refine iq<|an<|aG<|bj Y<|T (mC (J Y) hI)<|iH Y<|bD<|bt ?_;exact bg (aI (ih1 (IntKind.i64.wrap (n1+1)) h) (bA Y))
  ·refine ji<|bh<|bh<|d5<|aw<|bc<|bj Y<|T (bP ki Y Y bT (.head _) (J Y))<|bj Y<|cj h fun y j_ h=>T (pi nP ja Y (J Y) (J Y) j_)<|bo<|cj h fun r1 a_ h=>MI hy he1 a_ (J Y) ⟨(J Y),Z⟩ Y fun e4 he2=>T (jj (J Y))<|cn h Y (fun h=>?_) (fun h=>?_)
   ·exact jm<|am<|cR<|tz<|bv<|bv<|so h▸Q5 Y he2 hB ⟨fun _ h=>h,Z⟩
   ·refine iq<|aG<|T (bP ki Y Y bT (.tail _ (.head _)) (J Y))<|bj Y<|cj h fun y1 m_ h=>T (LA nP ja Y (J Y) (J Y) m_)<|bo<|aW ki af Y<|bD<|bt ?_;exact bg (aI (ih e4 r1.2 y1 ⟨he2,h⟩) (bA Y))
 ·exact ji<|bh<|bh<|d5<|bv<|so h▸TN Y he1 hB ⟨fun _ h=>h,Z⟩
