import Derived.Test.YtaehdhmbgmbgiaaGreatDoorKkT
import Derived.Test.YtaehdhmbgmbgiaaGreatDoorKkP18
set_option linter.all false
namespace Go.Proofs.YtaehdhmbgmbgiaaGreatDoor
open Go Tryz
set_option maxRecDepth 100000
def ahx s1 s2 eq{R}(h:eN s1 s2 eq=some R):bZ aP 42 [cy (aq) s1,cy (aq) s2,(eD aP af7 nG (fun(x:ai×ai)=>eq x.1 x.2))] (iF R):=by
 refine cx func42 Y<|aQ<|ck<|bI<|bc<|bj Y<|ca oo Y<|bj Y<|ca oo Y<|T (iO (J Y) (J Y))<|cn h Y (fun h=>?_) (fun h=>?_)
 ·exact aQ<|ck<|cX<|am<|so h▸aM Y Y
 ·refine iq<|bc<|bj Y<|ca oo Y<|T (bQ hI)<|bI<|an<|bm (k:=15) Y fun hN=>bM ?_;refine aI (gG (ay:=fun ls i=>(s1.drop i=ls)/\cE s2 eq ls i=some R) (Of:=fun _ i=>[]) (Gf:=fun _ i=>[(1,cy (aq) s2),(2,(eD aP af7 nG (fun(x:ai×ai)=>eq x.1 x.2))),(15,cy (aq) s1),(16,iQ s1),(17,bS (i:Int))]) (fun i h=>?_) (fun e tl ih i h=>?_) s1 0 ⟨Y,h⟩) (bA Y)
  ·obtain⟨V,h⟩:=h;exact dq V Y<|aw<|aQ<|ck<|cX<|so h▸aM Y Y
  ·obtain⟨V,h⟩:=h;refine dp V Y<|aC<|an<|aD Y<|d8 oo fL Y (de V)<|ax fL lk Y fun b=>iH Y<|aW fL af Y<|aA 8 Y<|bI<|aC ?_;refine aG<|bj Y<|bj Y<|cj h fun e1 Y' h=>d8 oo fL Y Y'<|ax fL lk Y fun b1=>aW fL af Y<|aA 9 Y<|bI<|aD Y<|bq fL Y<|bq fL Y<|cj h fun r h_ h=>T (hZ (args:=af7) (res:=F4) (f:=(fun(x:ai×ai)=>eq x.1 x.2)) (x:=((e,e1):ai×ai)) (J Y) h_ ⟨(J Y),(J Y),Z⟩)<|T (jj (J Y))<|cn h Y (fun h=>?_) (fun h=>?_)
   ·exact aQ<|ck<|cX<|cR<|am<|cR<|so h▸aM Y Y
   ·refine bO<|cV V hN Y ?_;exact bg (aI (ih (i+1) ⟨cJ V,h⟩) (bA Y))
def aep s1 s2{R}(h:lv s1 s2=some R):bZ aP 117 [cy (aJ) s1,cy (aJ) s2] (iF R):=by
 refine cx func117 Y<|aQ<|ck<|bI<|bc<|bj Y<|ca j6 Y<|bj Y<|ca j6 Y<|T (iO (J Y) (J Y))<|cn h Y (fun h=>?_) (fun h=>?_)
 ·exact aQ<|ck<|cX<|am<|so h▸aM Y Y
 ·refine iq<|bc<|bj Y<|ca j6 Y<|T (bQ hI)<|bI<|an<|bm (k:=11) Y fun hN=>bM ?_;refine aI (gG (ay:=fun ls i=>(s1.drop i=ls)/\fD s2 ls i=some R) (Of:=fun _ i=>[]) (Gf:=fun _ i=>[(0,cy (aJ) s1),(1,cy (aJ) s2),(12,iQ s1),(13,bS (i:Int))]) (fun i h=>?_) (fun e tl ih i h=>?_) s1 0 ⟨Y,h⟩) (bA Y)
  ·obtain⟨V,h⟩:=h;exact dq V Y<|aw<|aQ<|ck<|cX<|so h▸aM Y Y
  ·obtain⟨V,h⟩:=h;refine dp V Y<|aC<|an<|aD Y<|aS Y<|aC<|cj h fun e1 Y' h=>?_;refine nQ (ts:=[_,_,_,_,_,_,_,_,_]) mixed Y Y
    ⟨eX Y Y,
    ⟨eX Y Y,
    ⟨dX 16 0 17 1 Y Y Y (Ky j6 dF Y Y Y (de V)),
    ⟨fm 2 dF Y Y,
    ⟨eX Y Y,
    ⟨eX Y Y,
    ⟨dX 20 4 21 5 Y Y Y (Ky j6 dF Y Y Y Y'),
    ⟨fm 6 dF Y Y,
    ⟨dX 19 3 23 7 Y Y Y (Dx afu (J Y) (J Y)),
    Z⟩⟩⟩⟩⟩⟩⟩⟩⟩ ?_
   refine aw<|px h Y (fun h=>?_) (fun h=>?_)
   ·exact aQ<|ck<|cX<|cR<|am<|cR<|so h▸aM Y Y
   ·refine bO<|cV V hN Y ?_;exact bg (aI (ih (i+1) ⟨cJ V,h⟩) (bA Y))
def U0 a1 b{R}(h:uR a1 b=some R):bZ aP 70 [Q ap a1,Q ap b] (iF R):=by
 exact cx func70 Y<|aQ<|cg Y<|cg Y<|ck<|bI<|aQ<|bX fh dV nH Y<|bX fh dV nH Y<|cC h ak3 (aep _ _) (bN Y) fun r h=>bf Y<|so h▸aM Y Y
def ahj p y{R}(h:qx p y=some R):bZ aP 69 [Q eI p,Q eI y] (iF R):=by
 refine cx func69 Y<|aQ<|cg Y<|cg Y<|ck<|bI<|aQ<|bX BB vH cz Y<|bX BB vH cz Y<|T (mb (J Y) (J Y))<|bj Y<|cj h fun t r_ h=>bk Y (gU BA xb Y Y)<|bk Y (gK bR Y Y)<|bk Y (gU BA xb Y Y)<|bk Y (gK bR Y Y) ?_;obtain⟨r,g_,s_⟩:=og r_;have F_:=fun H=>(g_ H).1;exact bk Y (fun hg=>bG ah9 (U0 _ _ (F_ hg)) ⟨(db Y hg),(db Y hg),Z⟩)<|T (ee (J Y) (fun H=>(db Y H)) (fun H=>(g_ H).2) s_)<|bf Y<|so h▸aM Y Y
def aaG s1 s2{R}(h:mY s1 s2=some R):bZ aP 71 [oA s1,oA s2] (iF R):=by
 refine cx func71 Y<|aQ<|ck<|bI<|bc<|bj Y<|ca iG Y<|bj Y<|ca iG Y<|T (iO (J Y) (J Y))<|cn h Y (fun h=>?_) (fun h=>?_)
 ·exact aQ<|ck<|cX<|am<|so h▸aM Y Y
 ·refine iq<|bc<|bj Y<|ca iG Y<|T (bQ hI)<|bI<|an<|bm (k:=11) Y fun hN=>bM ?_;refine aI (gG (ay:=fun ls i=>(s1.drop i=ls)/\kI s2 ls i=some R) (Of:=fun _ i=>[]) (Gf:=fun _ i=>[(0,oA s1),(1,oA s2),(12,iQ s1),(13,bS (i:Int))]) (fun i h=>?_) (fun e tl ih i h=>?_) s1 0 ⟨Y,h⟩) (bA Y)
  ·obtain⟨V,h⟩:=h;exact dq V Y<|aw<|aQ<|ck<|cX<|so h▸aM Y Y
  ·obtain⟨V,h⟩:=h;refine dp V Y<|aC<|an<|aD Y<|aS Y<|aC<|cj h fun e1 Y' h=>?_;refine nQ (ts:=[_,_,_,_,_,_,_,_,_]) mixed Y Y
    ⟨eX Y Y,
    ⟨eX Y Y,
    ⟨dX 16 0 17 1 Y Y Y (Ky iG cz Y Y Y (de V)),
    ⟨fm 2 cz Y Y,
    ⟨eX Y Y,
    ⟨eX Y Y,
    ⟨dX 20 4 21 5 Y Y Y (Ky iG cz Y Y Y Y'),
    ⟨fm 6 cz Y Y,
    ⟨dX 19 3 23 7 Y Y Y (iO (J Y) (J Y)),
    Z⟩⟩⟩⟩⟩⟩⟩⟩⟩ ?_
   refine aw<|px h Y (fun h=>?_) (fun h=>?_)
   ·exact aQ<|ck<|cX<|cR<|am<|cR<|so h▸aM Y Y
   ·refine bO<|cV V hN Y ?_;exact bg (aI (ih (i+1) ⟨cJ V,h⟩) (bA Y))
def ahi s1 s2{R}(h:km s1 s2=some R):bZ aP 72 [cy (fM) s1,cy (fM) s2] (iF R):=by
 refine cx func72 Y<|aQ<|ck<|bI<|bc<|bj Y<|ca A6 Y<|bj Y<|ca A6 Y<|T (iO (J Y) (J Y))<|cn h Y (fun h=>?_) (fun h=>?_)
 ·exact aQ<|ck<|cX<|am<|so h▸aM Y Y
 ·refine iq<|bc<|bj Y<|ca A6 Y<|T (bQ hI)<|bI<|an<|bm (k:=11) Y fun hN=>bM ?_;refine aI (gG (ay:=fun ls i=>(s1.drop i=ls)/\gV s2 ls i=some R) (Of:=fun _ i=>[]) (Gf:=fun _ i=>[(0,cy (fM) s1),(1,cy (fM) s2),(12,iQ s1),(13,bS (i:Int))]) (fun i h=>?_) (fun e tl ih i h=>?_) s1 0 ⟨Y,h⟩) (bA Y)
  ·obtain⟨V,h⟩:=h;exact dq V Y<|aw<|aQ<|ck<|cX<|so h▸aM Y Y
  ·obtain⟨V,h⟩:=h;refine dp V Y<|aC<|an<|aD Y<|aS Y<|aC<|cj h fun e1 Y' h=>?_;refine nQ (ts:=[_,_,_,_,_,_,_,_,_]) mixed Y Y
    ⟨eX Y Y,
    ⟨eX Y Y,
    ⟨dX 16 0 17 1 Y Y Y (Ky A6 Gd Y Y Y (de V)),
    ⟨fm 2 Gd Y Y,
    ⟨eX Y Y,
    ⟨eX Y Y,
    ⟨dX 20 4 21 5 Y Y Y (Ky A6 Gd Y Y Y Y'),
    ⟨fm 6 Gd Y Y,
    ⟨dX 19 3 23 7 Y Y Y (Dx alD (J Y) (J Y)),
    Z⟩⟩⟩⟩⟩⟩⟩⟩⟩ ?_
   refine aw<|px h Y (fun h=>?_) (fun h=>?_)
   ·exact aQ<|ck<|cX<|cR<|am<|cR<|so h▸aM Y Y
   ·refine bO<|cV V hN Y ?_;exact bg (aI (ih (i+1) ⟨cJ V,h⟩) (bA Y))
def ahh s1 s2 eq{R}(h:ei s1 s2 eq=some R):bZ aP 73 [cy (eI) s1,cy (eI) s2,(eD aP abZ nG (fun(x:jx×jx)=>eq x.1 x.2))] (iF R):=by
 refine cx func73 Y<|aQ<|ck<|bI<|bc<|bj Y<|ca wO Y<|bj Y<|ca wO Y<|T (iO (J Y) (J Y))<|cn h Y (fun h=>?_) (fun h=>?_)
 ·exact aQ<|ck<|cX<|am<|so h▸aM Y Y
 ·refine iq<|bc<|bj Y<|ca wO Y<|T (bQ hI)<|bI<|an<|bm (k:=15) Y fun hN=>bM ?_;refine aI (gG (ay:=fun ls i=>(s1.drop i=ls)/\c9 s2 eq ls i=some R) (Of:=fun _ i=>[]) (Gf:=fun _ i=>[(1,cy (eI) s2),(2,(eD aP abZ nG (fun(x:jx×jx)=>eq x.1 x.2))),(15,cy (eI) s1),(16,iQ s1),(17,bS (i:Int))]) (fun i h=>?_) (fun e tl ih i h=>?_) s1 0 ⟨Y,h⟩) (bA Y)
  ·obtain⟨V,h⟩:=h;exact dq V Y<|aw<|aQ<|ck<|cX<|so h▸aM Y Y
  ·obtain⟨V,h⟩:=h;refine dp V Y<|aC<|an<|aD Y<|d8 wO vo Y (de V)<|ax vo Kv Y fun b=>iH Y<|aW vo af Y<|aA 8 Y<|bI<|aC ?_;refine aG<|bj Y<|bj Y<|cj h fun e1 Y' h=>d8 wO vo Y Y'<|ax vo Kv Y fun b1=>aW vo af Y<|aA 9 Y<|bI<|aD Y<|bq vo Y<|bq vo Y<|cj h fun r h_ h=>T (hZ (args:=abZ) (res:=F4) (f:=(fun(x:jx×jx)=>eq x.1 x.2)) (x:=((e,e1):jx×jx)) (J Y) h_ ⟨(J Y),(J Y),Z⟩)<|T (jj (J Y))<|cn h Y (fun h=>?_) (fun h=>?_)
   ·exact aQ<|ck<|cX<|cR<|am<|cR<|so h▸aM Y Y
   ·refine bO<|cV V hN Y ?_;exact bg (aI (ih (i+1) ⟨cJ V,h⟩) (bA Y))
def ahg s1 s2 eq{R}(h:dK s1 s2 eq=some R):bZ aP 74 [cy (ap) s1,cy (ap) s2,(eD aP af6 nG (fun(x:au×au)=>eq x.1 x.2))] (iF R):=by
 refine cx func74 Y<|aQ<|ck<|bI<|bc<|bj Y<|ca qp Y<|bj Y<|ca qp Y<|T (iO (J Y) (J Y))<|cn h Y (fun h=>?_) (fun h=>?_)
 ·exact aQ<|ck<|cX<|am<|so h▸aM Y Y
 ·refine iq<|bc<|bj Y<|ca qp Y<|T (bQ hI)<|bI<|an<|bm (k:=15) Y fun hN=>bM ?_;refine aI (gG (ay:=fun ls i=>(s1.drop i=ls)/\cN s2 eq ls i=some R) (Of:=fun _ i=>[]) (Gf:=fun _ i=>[(1,cy (ap) s2),(2,(eD aP af6 nG (fun(x:au×au)=>eq x.1 x.2))),(15,cy (ap) s1),(16,iQ s1),(17,bS (i:Int))]) (fun i h=>?_) (fun e tl ih i h=>?_) s1 0 ⟨Y,h⟩) (bA Y)
  ·obtain⟨V,h⟩:=h;exact dq V Y<|aw<|aQ<|ck<|cX<|so h▸aM Y Y
  ·obtain⟨V,h⟩:=h;refine dp V Y<|aC<|an<|aD Y<|d8 qp bR Y (de V)<|ax bR dQ Y fun b=>iH Y<|aW bR af Y<|aA 8 Y<|bI<|aC ?_;refine aG<|bj Y<|bj Y<|cj h fun e1 Y' h=>d8 qp bR Y Y'<|ax bR dQ Y fun b1=>aW bR af Y<|aA 9 Y<|bI<|aD Y<|bq bR Y<|bq bR Y<|cj h fun r h_ h=>T (hZ (args:=af6) (res:=F4) (f:=(fun(x:au×au)=>eq x.1 x.2)) (x:=((e,e1):au×au)) (J Y) h_ ⟨(J Y),(J Y),Z⟩)<|T (jj (J Y))<|cn h Y (fun h=>?_) (fun h=>?_)
   ·exact aQ<|ck<|cX<|cR<|am<|cR<|so h▸aM Y Y
   ·refine bO<|cV V hN Y ?_;exact bg (aI (ih (i+1) ⟨cJ V,h⟩) (bA Y))
def ahw a1 b{R}(h:y4 a1 b=some R):bZ aP 43 [Q aq a1,Q aq b] (iF R):=by
 refine cx func43 Y<|aQ<|cg Y<|cg Y<|ck<|bI<|aQ<|T (bu (show be _ _ _ ((eD aP abZ nG (fun(x:jx×jx)=>qx x.1 x.2)))from(A3 alZ fun x y h=>ahj _ _ h)))<|bI<|aQ<|bX uz pm fS Y<|bX uz pm fS Y<|cC h ajt (aaG _ _) (bN Y) fun r h=>bj Y<|cj h fun t r_ h=>bk Y (gU uy nv Y Y) ?_;refine bk Y (gK fS Y Y)<|bk Y (gU uy nv Y Y)<|bk Y (gK fS Y Y) ?_;obtain⟨r1,g_,s_⟩:=og r_;have k_:=fun H=>(g_ H).1;refine bk Y (fun hg=>bG ajt (aaG _ _ (k_ hg)) ⟨(db Y hg),(db Y hg),Z⟩)<|T (ee (J Y) (fun H=>(db Y H)) (fun H=>(g_ H).2) s_)<|bj Y<|cj h fun t1 V_ h=>bk Y (gU tg oh Y Y)<|bk Y (gK Ge Y Y)<|bk Y (gU tg oh Y Y)<|bk Y (gK Ge Y Y) ?_;obtain⟨r2,o_,G_⟩:=og V_;have q_r2g:=fun H=>(o_ H).1;refine bk Y (fun hg=>bG alY (ahi _ _ (q_r2g hg)) ⟨(db Y hg),(db Y hg),Z⟩)<|T (ee (J Y) (fun H=>(db Y H)) (fun H=>(o_ H).2) G_)<|aS Y<|aQ<|bX oV i7 bR Y<|bX oV i7 bR Y<|cC h ah9 (U0 _ _) (bN Y) fun r3 h=>bj Y<|cj h fun t2 W_ h=>bk Y (gU rz qz Y Y)<|bk Y (gK Cv Y Y)<|bk Y (gU rz qz Y Y)<|bk Y (gK Cv Y Y)<|bk Y (fa Y) ?_;obtain⟨r4,L_,X_⟩:=og W_;have q_r4g:=fun H=>(L_ H).1;refine bk Y (fun hg=>bG alX (ahh _ _ _ (q_r4g hg)) ⟨(db Y hg),(db Y hg),(db Y hg),Z⟩)<|T (ee (J Y) (fun H=>(db Y H)) (fun H=>(L_ H).2) X_)<|bj Y<|cj h fun t3 q_t3 h=>bk Y (gU oK kD Y Y)<|bk Y (gK lT Y Y)<|bk Y (gU oK kD Y Y)<|bk Y (gK lT Y Y) ?_;obtain⟨r5,M_,h0t3⟩:=og q_t3;have K_:=fun H=>(M_ H).1;refine bk Y (fun hg=>bG alW (ahg _ _ _ (K_ hg)) ⟨(db Y hg),(db Y hg),(A3 ah9 fun x y h=>U0 _ _ h),Z⟩)<|T (ee (J Y) (fun H=>(db Y H)) (fun H=>(M_ H).2) h0t3)<|aS Y<|aQ<|bX qF iD cz Y<|bX qF iD cz Y<|T (mb (J Y) (J Y))<|bj Y<|bk Y (gU k5 eE Y Y)<|bk Y (gK cz Y Y)<|bk Y (gU k5 eE Y Y)<|bk Y (gK cz Y Y)<|bk Y (fun hg=>mb (db Y hg) (db Y hg))<|i9 Y<|bj Y<|bk Y (gU sH lC Y Y)<|bk Y (gK cz Y Y)<|bk Y (gU sH lC Y Y)<|bk Y (gK cz Y Y) ?_;refine bk Y (fun hg=>mb (db Y hg) (db Y hg))<|i9 Y<|bj Y<|bk Y (gU BC sF Y Y)<|bk Y (gK cz Y Y)<|bk Y (gU BC sF Y Y)<|bk Y (gK cz Y Y)<|bk Y (fun hg=>mb (db Y hg) (db Y hg))<|i9 Y<|bj Y<|bk Y (gU Fq ww Y Y)<|bk Y (gK Na Y Y)<|bk Y (gU Fq ww Y Y)<|bk Y (gK Na Y Y)<|bk Y (fun hg=>V2 NX (db Y hg) (db Y hg))<|i9 Y<|bj Y<|bk Y (gU BD uQ Y Y)<|bk Y (gK cz Y Y)<|bk Y (gU BD uQ Y Y)<|bk Y (gK cz Y Y)<|bk Y (fun hg=>mb (db Y hg) (db Y hg))<|i9 Y<|bj Y ?_;exact bk Y (fa Y)<|i9 Y<|bj Y<|bk Y (fa Y)<|i9 Y<|bf Y<|so h▸aM Y Y
def ahV a1 b{R}(h:wp a1 b=some R):bZ aP 10 [Q aX a1,Q aX b] (iF R):=by
 exact cx func10 Y<|aQ<|cg Y<|cg Y<|ck<|bI<|aQ<|bX ju fx r0 Y<|bX ju fx r0 Y<|cC h amf (ahx _ _ _) ⟨(J Y),(J Y),(A3 ame fun x y h=>ahw _ _ h),Z⟩ fun r h=>bf Y<|so h▸aM Y Y
def ahv s1 s2 eq{R}(h:fY s1 s2 eq=some R):bZ aP 44 [cy (d6) s1,cy (d6) s2,(eD aP Kw nG (fun(x:(List ac)×(List ac))=>eq x.1 x.2))] (iF R):=by
 refine cx func44 Y<|aQ<|ck<|bI<|bc<|bj Y<|ca nP Y<|bj Y<|ca nP Y<|T (iO (J Y) (J Y))<|cn h Y (fun h=>?_) (fun h=>?_)
 ·exact aQ<|ck<|cX<|am<|so h▸aM Y Y
 ·refine iq<|bc<|bj Y<|ca nP Y<|T (bQ hI)<|bI<|an<|bm (k:=15) Y fun hN=>bM ?_;refine aI (gG (ay:=fun ls i=>(s1.drop i=ls)/\cZ s2 eq ls i=some R) (Of:=fun _ i=>[]) (Gf:=fun _ i=>[(1,cy (d6) s2),(2,(eD aP Kw nG (fun(x:(List ac)×(List ac))=>eq x.1 x.2))),(15,cy (d6) s1),(16,iQ s1),(17,bS (i:Int))]) (fun i h=>?_) (fun e tl ih i h=>?_) s1 0 ⟨Y,h⟩) (bA Y)
  ·obtain⟨V,h⟩:=h;exact dq V Y<|aw<|aQ<|ck<|cX<|so h▸aM Y Y
  ·obtain⟨V,h⟩:=h;refine dp V Y<|aC<|an<|aD Y<|d8 nP ja Y (de V)<|iH Y<|aS Y<|aD Y ?_;refine bj Y<|cj h fun e1 Y' h=>d8 nP ja Y Y'<|aS Y<|aD Y<|bj Y<|bj Y<|cj h fun r h_ h=>T (hZ (args:=ab3) (res:=F4) (f:=(fun(x:(List ac)×(List ac))=>eq x.1 x.2)) (x:=((e,e1):(List ac)×(List ac))) (J Y) h_ ⟨(J Y),(J Y),Z⟩)<|T (jj (J Y))<|cn h Y (fun h=>?_) (fun h=>?_)
   ·exact aQ<|ck<|cX<|cR<|am<|cR<|so h▸aM Y Y
   ·refine bO<|cV V hN Y ?_;exact bg (aI (ih (i+1) ⟨cJ V,h⟩) (bA Y))
def ahu p y{R}(h:wH p y=some R):bZ aP 45 [cy (ah) p,cy (ah) y] (iF R):=by
 exact cx func45 Y<|aQ<|ck<|bI<|aD Y<|bj Y<|cC h aif (U5 _ _) (bN Y) fun r h=>dA Y<|bf Y<|so h▸aM Y Y
def ahS a1 b{R}(h:uP a1 b=some R):bZ aP 11 [cy (d6) a1,cy (d6) b] (iF R):=by
 exact cx func11 Y<|aQ<|ck<|bI<|aD Y<|bj Y<|cC h amd (ahv _ _ _) ⟨(J Y),(J Y),(A3 amc fun x y h=>ahu _ _ h),Z⟩ fun r h=>bf Y<|so h▸aM Y Y
def ajb p y{R}(h:qy p y=some R):bZ aP 3 [Q aX p,Q ko y] (iF R):=by
 refine cx func3 Y<|aQ<|cg Y<|cg Y<|ck<|bI<|bc<|cC h cb4 aja trivial fun r h=>T (jj (J Y))<|cn h Y (fun h=>?_) (fun h=>?_)
 ·exact aQ<|ck<|cX<|am<|so h▸aM Y Y
 ·refine iq<|aC<|cj h fun r1 a_ h=>cj h fun r2 d_ h=>?_;refine jQ 6 [tc (Q aX p),tc (Q aX r1),tc (Q ko y),tc (Q ko r2),([4],fun s=>tV (aE ((s.getD 0 tA).h 0).2 0)),([5],fun s=>tV (aE ((s.getD 0 tA).h 0).2 0))] [false,false,false,false,true,true] [([],fun _=>[]),([4],fun sg=>[bx aX 24 ((sg 4).h 0).2 zq]),([5],fun sg=>[bx ko 27 ((sg 5).h 0).2 TU]),([4,5],fun sg=>[bx ko 27 ((sg 5).h 0).2 TU,bx aX 24 ((sg 4).h 0).2 zq])] (fun _=>Y) mixed Y Y Y Y
   ⟨⟨[⟨2,fun _=>bH aX p,none⟩],_,[[],[4],[5],[4,5]],Y,⟨(fun _=>Y),Z⟩,Y,Y,Y,Y,Y,⟨fun sg=>ae Y (np dC Y Y),fun sg=>ae Y (np dC Y Y),fun sg=>ae Y (np dC Y Y),fun sg=>ae Y (np dC Y Y),Z⟩⟩,
   ⟨⟨[⟨20,fun _=>Q aX p,some 0⟩],_,[[],[4],[5],[4,5]],Y,⟨(fun _=>Y),Z⟩,Y,Y,Y,Y,Y,⟨fun sg=>ae Y (bG cb5 (Wu _ a_) ⟨(J Y),Z⟩),fun sg=>ae Y (bG cb5 (Wu _ a_) ⟨(J Y),Z⟩),fun sg=>ae Y (bG cb5 (Wu _ a_) ⟨(J Y),Z⟩),fun sg=>ae Y (bG cb5 (Wu _ a_) ⟨(J Y),Z⟩),Z⟩⟩,
   ⟨⟨[⟨3,fun _=>bH ko y,none⟩],_,[[],[4],[5],[4,5]],Y,⟨(fun _=>Y),Z⟩,Y,Y,Y,Y,Y,⟨fun sg=>ae Y (np D4 Y Y),fun sg=>ae Y (np D4 Y Y),fun sg=>ae Y (np D4 Y Y),fun sg=>ae Y (np D4 Y Y),Z⟩⟩,
   ⟨⟨[⟨22,fun _=>Q ko y,some 2⟩],_,[[],[4],[5],[4,5]],Y,⟨(fun _=>Y),Z⟩,Y,Y,Y,Y,Y,⟨fun sg=>ae Y (bG cb6 (Ws _ d_) ⟨(J Y),Z⟩),fun sg=>ae Y (bG cb6 (Ws _ d_) ⟨(J Y),Z⟩),fun sg=>ae Y (bG cb6 (Ws _ d_) ⟨(J Y),Z⟩),fun sg=>ae Y (bG cb6 (Ws _ d_) ⟨(J Y),Z⟩),Z⟩⟩,
   ⟨⟨[],_,[([],[4]),([5],[4,5])],Y,Z,Y,Y,Y,Y,Y,⟨fun sg=>cw Y (kQ dC fU),fun sg=>cw Y (EffOK.post_imp (post:=fun x__=>(fun(sg:Nat->OI)=>[bx aX 24 ((sg 4).h 0).2 zq,bx ko 27 ((sg 5).h 0).2 TU]) (upd sg 4 x__)) (kQ dC fU) (fun h=>dW.pick [1,0] Y h)),Z⟩⟩,
   ⟨⟨[],_,[([],[5]),([4],[4,5])],Y,Z,Y,Y,Y,Y,Y,⟨fun sg=>cw Y (kQ D4 JL),fun sg=>cw Y (kQ D4 JL),Z⟩⟩,
   Z⟩⟩⟩⟩⟩⟩ (fun sg=>?_)
  refine(show RG _ _ _ _ [_,_] _ from ?_);refine bo<|aW dC af Y<|aA 5 Y<|aW D4 af Y<|aA 6 Y<|bI<|bc<|bX ju fx r0 Y<|ca oo Y<|T (oI (J Y) hI)<|cn h Y (fun h=>?_) (fun h=>?_)
  ·exact aQ<|ck<|cX<|am<|so h▸aM Y Y
  ·refine iq<|aQ<|bq dC Y<|bq D4 Y<|cC h cb7 (afq _ _) (bN Y) fun r3 h=>bj Y<|bL Y Y<|bL Y Y<|iH Y<|aS Y<|bc<|bj Y<|gw Y<|bj Y<|bk Y (fa Y)<|bk Y (Et Y)<|i9 Y ?_;refine cn h Y (fun h=>?_) (fun h=>?_)
   ·exact aQ<|ck<|cX<|am<|so h▸aM Y Y
   ·refine iq<|aQ<|bq dC Y<|cC h cb8 (afp _) (bN Y) fun r4 h=>bj Y<|bL Y Y<|bL Y Y<|ax dC fU Y fun b=>aW dC af Y<|aA 9 Y<|aS Y<|aQ<|bq dC Y<|cC h cb9 (afo _) (bN Y) fun r5 h=>bj Y<|bL Y Y<|bL Y Y ?_;refine bL Y Y<|ax dC fU Y fun b1=>aW dC af Y<|aA 11 Y<|iH Y<|aS Y<|bc<|bj Y<|gw Y<|bj Y<|co Y (fa Y)<|co Y (Et Y)<|py Y<|bj Y<|cj h fun t r_ h=>co Y (fa Y)<|co Y (yH Y)<|co Y (F8 Y) ?_;obtain⟨t1,g_,s_⟩:=og r_;have R_:=fun H=>(g_ H).1;refine kS Y Y Y Y (fun hg=>np dC Y Y)<|kS Y Y Y Y (fun hg=>np dC Y Y) ?_;obtain⟨r6,o_,G_⟩:=og3 R_;have q_r6g:=fun H=>(o_ H).1;refine kS Y Y Y Y (fun hg=>bG amz (ahV _ _ (q_r6g hg)) ⟨(db Y hg),(db Y hg),Z⟩)<|kS Y Y Y Y (fun hg=>jj (db Y hg))<|co Y (fun hg=>ee (db Y hg) (fun H=>(db Y (G3 hg H))) (fun H=>(o_ (G3 hg H)).2) (fun H=>G_ hg H))<|T (nt (J Y) (fun H=>(db Y (Ea H))) (fun H=>(g_ H).2) s_)<|cn h Y (fun h=>?_) (fun h=>?_)
    ·exact aQ<|ck<|cX<|am<|so h▸aM Y Y
    ·refine iq<|bc<|bq dC Y<|bq dC Y<|T (AG (r:=aX) (ys:=[r4.1,r5.1]) (xs:=[.tmp 67,.tmp 68]) underlying40 dC Y alr Y Y ⟨(J Y),(J Y),Z⟩)<|T (bQ hI)<|bI<|an<|bM ?_;refine aI (XD (ay:=fun k i=>(2-i=k)/\mi r2 r3 r4 r5 k i=some R) (Of:=fun _ i=>[]) (Gf:=fun _ i=>[(6,bH ko r2),(7,cy (d6) r3.1),(8,bS r3.2),(69,Q (tE aX 2) ([r4.1,r5.1])),(70,bS (i:Int))]) (fun i h=>?_) (fun k1 ih i h=>?_) 2 0 ⟨Y,h⟩) (bA Y)
     ·obtain⟨V,h⟩:=h;exact ig<|aQ<|T (jk (J Y) hI)<|bI<|aC<|vV (J Y) (Z1 V)<|ji<|bh<|bh<|d5<|aw<|aQ<|ck<|cX<|so h▸aM Y Y
     ·obtain⟨V,h⟩:=h;refine ig<|aQ<|T (jk (J Y) hI)<|bI<|aC<|vU (J Y) (Z0 V)<|iq<|aC<|an<|aQ<|cj h fun e1 Y' h=>T (Ov underlying40 dC Y Y (J Y) (J Y) Y')<|ax dC fU Y fun b2=>aW dC af Y<|aA 15 Y<|bI<|aQ<|bq dC Y ?_;refine bq D4 Y<|cC h cb7 (afq _ _) (bN Y) fun r7 h=>bj Y<|bL Y Y<|bL Y Y<|iH Y<|aS Y<|aD Y<|bj Y<|T (iO (J Y) (J Y))<|bj Y<|cj h fun t2 W_ h=>co Y (fa Y)<|co Y (fa Y) ?_;obtain⟨r8,L_,X_⟩:=og W_;have q_r8g:=fun H=>(L_ H).1;refine co Y (fun hg=>bG amy (ahS _ _ (q_r8g hg)) ⟨(db Y hg),(db Y hg),Z⟩)<|co Y (yH Y)<|T (nt (J Y) (fun H=>(db Y (Ea H))) (fun H=>(L_ H).2) X_)<|cn h Y (fun h=>?_) (fun h=>?_)
      ·exact aQ<|ck<|cX<|cR<|am<|cR<|so h▸aM Y Y
      ·refine bO<|bt<|aw<|aG<|T (xZ (Sn V (by decide)) (J Y) hI)<|bj Y<|bD ?_;exact bg (aI (ih (i+1) ⟨Sl V,h⟩) (bA Y))
